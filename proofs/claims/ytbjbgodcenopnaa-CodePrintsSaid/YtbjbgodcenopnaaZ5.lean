/- Put together by pack.py (my own program) of texts of mine: Cu6, Ro, Rm, Rn, Rk, Cu7. -/
import Derived.Test.YtbjbgodcenopnaaZ4
namespace Go.Proofs.Ytbjbgodcenopnaa
set_option linter.unusedVariables false
set_option linter.unusedSimpArgs false
set_option maxHeartbeats 1000000
theorem value_name (K : Nat) (L : List ApiWord) (i D S A : Int) (w : ApiWord) (r : List ApiWord) (h0 : 0 ≤ i) (hd : L.drop i.toNat = w :: r) (hk : w.Kind = 1) (h1 : w.S ≠ [116, 114, 117, 101]) (h2 : w.S ≠ [102, 97, 108, 115, 101]) (h3 : w.S ≠ [110, 117, 108, 108]) :
    ∃ v, p12_value.f (K + 1) ⟨L, i, D, S, A, 0⟩ = some (⟨L, i, D, S, A, 0⟩, v, false) := by
  have a1 := adrop_lt h0 hd
  rw [p12_value.f]
  unfold p12_value.b
  dsimp only
  rw [if_neg (by simp), if_pos ⟨h0, a1.1⟩, getD_drop hd, hk, if_neg (by simp), if_neg (by simp), if_neg (by simp), if_neg (by simpa using h1), if_neg (by simpa using h2), if_neg (by simpa using h3), is_at h0 hd, Option.bind_some, hk, if_neg (by simp)]
  unfold p12_value.j1 p12_value.j2
  rw [if_neg (by simp)]
  exact ⟨_, rfl⟩
def After (R : List ApiWord) : Prop := ∃ w r, R = w :: r ∧ w.Kind = 5 ∧ (w.S = [44] ∨ w.S = [41])
theorem After.free {R : List ApiWord} (h : After R) : Free 46 R := by
  obtain ⟨w, r, rfl, h1, h2⟩ := h
  exact ⟨w, r, rfl, by rcases h2 with h2 | h2 <;> rw [h2] <;> simp⟩
theorem After.open {R : List ApiWord} (h : After R) : ∃ w r, R = w :: r ∧ w.Kind = 5 ∧ w.S ≠ [40] := by
  obtain ⟨w, r, rfl, h1, h2⟩ := h
  exact ⟨w, r, rfl, h1, by rcases h2 with h2 | h2 <;> rw [h2] <;> simp⟩
def GoodR {α : Type} (L : List ApiWord) (i D S A : Int) (n : Nat) (x : α) (r : St12 × α) : Prop := r.1.E ≠ 0 ∨ ∃ S', S ≤ S' ∧ S' ≤ 150 ∧ r = (⟨L, i + n, D, S', A, 0⟩, x)
def TakesA (F : AF) (a : ApiArg) : Prop :=
  ∀ (L : List ApiWord) (i D S A : Int) (W R : List ApiWord), 0 ≤ i → L.length ≤ 5000 → 0 ≤ D → D ≤ 12 → 0 ≤ S → S ≤ 150 → L.drop i.toNat = W ++ R → After R → Like W (toksA a) → ∃ r, F ⟨L, i, D, S, A, 0⟩ = some r ∧ GoodR L i D S A W.length a r
def TakesS (F : SF) (l : List ApiStep) : Prop :=
  ∀ (L : List ApiWord) (i D S A : Int) (W R : List ApiWord), 0 ≤ i → L.length ≤ 5000 → 0 ≤ D → D ≤ 12 → 0 ≤ S → S ≤ 150 → L.drop i.toNat = W ++ R → Free 46 R → Like W (sepToks 46 (l.map toksS1)) → ∃ r, F ⟨L, i, D, S, A, 0⟩ = some r ∧ GoodR L i D S A W.length l r
def ErrS (F : SF) : Prop := ∀ s : St12, s.E ≠ 0 → ∃ v, F s = some (s, v)
theorem steps_errS (K : Nat) (hK : 3 ≤ K) : ErrS (p12_steps.f K) := by
  intro s he
  obtain ⟨K, rfl⟩ : ∃ K', K = K' + 1 + 1 := ⟨K - 2, by omega⟩
  rw [p12_steps.f, p12_steps.b, p12_steps.l1, if_neg (by simpa using he), p12_steps.j1]
  exact ⟨_, rfl⟩
theorem toksP_head : ∀ (n : Nat) (p : ApiPred), wP p ≤ n → PP p → ∃ op T, toksP p = nmW op :: sgW 40 :: T ∧ IsName op ∧ (predsV op).2 = true := by
  intro n
  induction n with
  | zero => intro p h; have := wP_pos p; omega
  | succ n ih =>
    intro p h hp
    cases hp.kind with
    | base op l h1 h2 h3 h4 h5 => exact ⟨op, _, toksP_base h2, h1, h2⟩
    | join op p q ho h1 h2 =>
      rw [wP, wL, wPs, wPs, wPs] at h
      obtain ⟨op', T, h3, h4⟩ := ih p (by omega) h1
      exact ⟨op', _, by rw [toksP_join ho, h3]; rfl, h4⟩
    | neg p h1 =>
      rw [wP, wL, wPs, wPs] at h
      obtain ⟨op', T, h3, h4⟩ := ih p (by omega) h1
      exact ⟨op', _, by rw [toksP_neg, h3]; rfl, h4⟩
theorem arg_takes (K : Nat) (hK : 40000 ≤ K) (a : ApiArg) (h : GA1 a) (zst : SF) (zar : AF) (hE : ErrS zst) (hT : a.Kind = 3 → TakesS zst a.T) : TakesA (p12_arg.b zst zar K) a := by
  obtain ⟨k, v, p, T⟩ := a
  simp only [GA1] at h
  simp only at hT
  obtain ⟨h1, h2, h3, h4, h5, h6⟩ := h
  intro L i D S A W R h0 hl hD hD' hS hS' hd hR hW
  obtain ⟨Kv, rfl⟩ : ∃ q, K = q + 1 := ⟨K - 1, by omega⟩
  rw [toksA, toksSs_map] at hW
  rcases h6 with ⟨rfl, a1, rfl, rfl⟩ | ⟨rfl, rfl, a1, rfl⟩ | ⟨rfl, rfl, rfl⟩ | ⟨rfl, ⟨nm, rfl, a1, a2, a3, a4, a5⟩, rfl, rfl⟩
  · rw [if_neg (by decide), if_neg (by decide), if_neg (by decide)] at hW
    have hz := value_takes _ v (Kv + 1) (pv_gd v a1) (pv_ok v a1) (Nat.le_refl _) (by rw [sz_w]; omega)
    have hv5 : v.Kind < 6 := by cases v; simp only [PV] at a1; exact Int.lt_of_le_of_lt a1.2.1 (by decide)
    obtain ⟨q, q1, q2⟩ := arg_val (Kv + 1) zst zar v hz L i D S A W R h0 hl hD hD' hd (by obtain ⟨w, r, e, _⟩ := hR; simp [e]) hW hv5
    refine ⟨q, q1, ?_⟩
    rcases q2 with q2 | ⟨q2, q3⟩
    · exact .inl q2
    · refine .inr ⟨S, Int.le_refl _, hS', ?_⟩
      rw [pv_cv v a1] at q3
      exact Prod.ext q2 q3
  · rw [if_pos rfl] at hW
    obtain ⟨op, T', e, hn, hp2⟩ := toksP_head _ p (Nat.le_refl _) a1.1
    have hWp := hW
    rw [e] at hW
    obtain ⟨w1, W1, rfl, k1, s1, _, _, hW⟩ := hW.cons
    obtain ⟨w2, W2, rfl, k2, s2, _, _, hW⟩ := hW.cons
    have hd0 := hd
    simp only [List.cons_append] at hd
    have b1 := adrop_lt h0 hd
    have d1 := b1.2.1
    have b2 := adrop_lt (by omega) d1
    have ht : op ≠ [116, 114, 117, 101] := by rintro rfl; revert hp2; decide
    have hf : op ≠ [102, 97, 108, 115, 101] := by rintro rfl; revert hp2; decide
    have hnn : op ≠ [110, 117, 108, 108] := by rintro rfl; revert hp2; decide
    obtain ⟨v, hv⟩ := value_name Kv L i D S A w1 _ h0 hd k1 (by rw [s1]; exact ht) (by rw [s1]; exact hf) (by rw [s1]; exact hnn)
    unfold p12_arg.b
    rw [hv, Option.bind_some]
    dsimp only
    rw [if_neg (by simp), if_pos ⟨h0, b1.1⟩, getD_drop hd, k1, if_pos (by simp), W_in (by omega) (by omega), if_pos ⟨by omega, b2.1⟩, s1, preds_eq (by omega), Option.bind_some, hp2, getD_drop d1, k2, s2, if_pos (by simp)]
    obtain ⟨q, q1, q2⟩ := pred_takes 1600 p (Kv + 1) a1.2 (Nat.le_refl _) a1.1 (by omega) L i D S A _ R h0 hl hD hD' hd0 hR.free hWp
    rw [q1, Option.bind_some]
    refine ⟨_, rfl, ?_⟩
    rcases q2 with q2 | rfl
    · exact .inl q2
    · exact .inr ⟨S, Int.le_refl _, hS', rfl⟩
  · rw [if_neg (by decide), if_pos rfl] at hW
    obtain ⟨w1, W1, rfl, k1, s1, _, _, hW⟩ := hW.cons
    obtain ⟨w2, W2, rfl, k2, s2, _, _, hW⟩ := hW.cons
    simp only [List.cons_append] at hd
    have b1 := adrop_lt h0 hd
    have d1 := b1.2.1
    have b2 := adrop_lt (by omega) d1
    have d2 := b2.2.1
    obtain ⟨v, hv⟩ := value_name Kv L i D S A w1 _ h0 hd k1 (by rw [s1]; decide) (by rw [s1]; decide) (by rw [s1]; decide)
    unfold p12_arg.b
    rw [hv, Option.bind_some]
    dsimp only
    rw [if_neg (by simp), if_pos ⟨h0, b1.1⟩, getD_drop hd, k1, if_pos (by simp), W_in (by omega) (by omega), if_pos ⟨by omega, b2.1⟩, s1, preds_eq (by omega), Option.bind_some, getD_drop d1, k2, s2, if_neg (by decide), if_neg (by decide)]
    unfold p12_arg.j1
    by_cases h12 : 12 ≤ D
    · rw [into_most h0 hd h12, Option.bind_some]
      have he : (⟨L, i, D, S, w1.At, 3⟩ : St12).E ≠ 0 := by show (3 : Int) ≠ 0; decide
      rw [if_neg (by simp)]
      unfold p12_arg.j2
      obtain ⟨v', hv'⟩ := hE _ he
      rw [hv', Option.bind_some]
      exact ⟨_, rfl, .inl he⟩
    · rw [into_ok hD (by omega), Option.bind_some]
      dsimp only
      rw [k1, s1, if_pos (by simp), W_in (by omega) (by omega), sign_ok (by omega) hl d1 _ k2 s2, Option.bind_some]
      unfold p12_arg.j2
      obtain ⟨q, q1, q2⟩ := hT rfl L (i + 1 + 1) (D + 1) S A W2 R (by omega) hl (by omega) (by omega) hS hS' d2 hR.free hW
      rw [q1, Option.bind_some]
      refine ⟨_, rfl, ?_⟩
      rcases q2 with q2 | ⟨S', q2, q3, rfl⟩
      · exact .inl q2
      · refine .inr ⟨S', q2, q3, ?_⟩
        simp only [List.length_cons, Prod.mk.injEq, St12.mk.injEq, and_true, true_and]
        omega
  · rw [if_neg (by decide), if_neg (by decide), if_pos rfl] at hW
    obtain ⟨w1, W1, rfl, k1, s1, _, _, hW⟩ := hW.cons
    obtain rfl := hW.nil
    obtain ⟨w2, W2, rfl, k2, s2⟩ := hR.open
    simp only [List.cons_append, List.nil_append] at hd
    have b1 := adrop_lt h0 hd
    have d1 := b1.2.1
    have b2 := adrop_lt (by omega) d1
    simp only at s1
    obtain ⟨v, hv⟩ := value_name Kv L i D S A w1 _ h0 hd k1 (by rw [s1]; exact a3) (by rw [s1]; exact a4) (by rw [s1]; exact a5)
    unfold p12_arg.b
    rw [hv, Option.bind_some]
    dsimp only
    have e2 : decide (w2.S = ([40] : List UInt8)) = false := by simpa using s2
    have e3 : decide (nm = ([95, 95] : List UInt8)) = false := by simpa using a2
    rw [if_neg (by simp), if_pos ⟨h0, b1.1⟩, getD_drop hd, k1, if_pos (by simp), W_in (by omega) (by omega), if_pos ⟨by omega, b2.1⟩, s1, preds_eq (by omega), Option.bind_some, getD_drop d1, k2, e2, if_neg (by simp), e3, if_pos (by simp)]
    exact ⟨_, rfl, .inr ⟨S, Int.le_refl _, hS', rfl⟩⟩
section
variable {zst : SF} {zar : AF} {K : Nat}
theorem st_l2_err (g : List ApiStep → St12 → Option (St12 × List ApiStep)) (l3 : List ApiStep) (k : Nat) (l5 : List ApiArg) (nm : List UInt8) (s : St12) (he : s.E ≠ 0) (h3 : l3.length ≤ 200) : ∃ r, p12_steps.l2 zst zar g K l3 (k + 1) l5 nm s = some r ∧ r.1.E ≠ 0 := by
  have e : decide (s.E = 0) = false := by simpa using he
  rw [p12_steps.l2, e, if_neg (by simp), Option.bind_some, if_neg (by simp), sign_err he, Option.bind_some, if_pos (by simp only [List.length_cons, List.length_nil]; omega), is_err he, Option.bind_some, if_pos (by simp)]
  exact ⟨_, rfl, he⟩
theorem st_j3_err (g : List ApiStep → St12 → Option (St12 × List ApiStep)) (l3 : List ApiStep) (k : Nat) (l5 : List ApiArg) (nm : List UInt8) (s : St12) (he : s.E ≠ 0) (h3 : l3.length ≤ 200) : ∃ r, p12_steps.j3 zst zar g (p12_steps.l2 zst zar g K l3 (k + 1)) K l3 l5 nm s = some r ∧ r.1.E ≠ 0 := by
  unfold p12_steps.j3
  rw [if_neg (by simpa using he)]
  exact st_l2_err g l3 k l5 nm s he h3
theorem st_arg (g : List ApiStep → St12 → Option (St12 × List ApiStep)) (l3 : List ApiStep) (h3 : l3.length ≤ 200) {a : ApiArg} (ha : TakesA zar a) (k : Nat) (l5 : List ApiArg) (nm : List UInt8) (h5 : l5.length ≤ 12) (L : List ApiWord) (i D S A : Int) (W R : List ApiWord) (h0 : 0 ≤ i) (hl : L.length ≤ 5000) (hD : 0 ≤ D) (hD' : D ≤ 12) (hS : 0 ≤ S) (hS' : S ≤ 150) (hd : L.drop i.toNat = W ++ R) (hR : After R) (hW : Like W (toksA a)) :
    (∃ r, p12_steps.j2 zst zar g (p12_steps.l2 zst zar g K l3 (k + 1)) K l3 l5 nm ⟨L, i, D, S, A, 0⟩ = some r ∧ r.1.E ≠ 0) ∨ ∃ S', S ≤ S' ∧ S' ≤ 150 ∧ p12_steps.j2 zst zar g (p12_steps.l2 zst zar g K l3 (k + 1)) K l3 l5 nm ⟨L, i, D, S, A, 0⟩ = p12_steps.l2 zst zar g K l3 (k + 1) (l5 ++ [a]) nm ⟨L, i + W.length, D, S', A, 0⟩ := by
  obtain ⟨w, q, hw⟩ : ∃ w q, W ++ R = w :: q := head_of (by obtain ⟨w, r, e, _⟩ := hR; simp [e])
  unfold p12_steps.j2
  by_cases h12 : 12 ≤ (l5.length : Int)
  · rw [if_pos (by simpa using h12), fail_at h0 (by rw [hd, hw]), Option.bind_some]
    exact .inl (st_j3_err g l3 k l5 nm _ (by show (3 : Int) ≠ 0; decide) h3)
  rw [if_neg (by simpa using h12)]
  unfold p12_steps.j3
  obtain ⟨r, h1, h2⟩ := ha L i D S A W R h0 hl hD hD' hS hS' hd hR hW
  rw [if_pos (by simp), h1, Option.bind_some, if_pos (by simp only [List.length_cons, List.length_nil]; omega)]
  rcases h2 with h2 | ⟨S', s1, s2, rfl⟩
  · exact .inl (st_l2_err g l3 k _ nm _ h2 h3)
  · exact .inr ⟨S', s1, s2, rfl⟩
def stEnd (g : List ApiStep → St12 → Option (St12 × List ApiStep)) (l3 : List ApiStep) (l5 : List ApiArg) (nm : List UInt8) (s : St12) : Option (St12 × List ApiStep) :=
  Option.bind (p12_is.f s [46]) fun t => if (!t) = true then some (s, l3 ++ [⟨nm, l5⟩]) else g (l3 ++ [⟨nm, l5⟩]) ⟨s.L, IntKind.wrap .i64 (s.I + 1), s.Deep, s.Steps, s.At, s.E⟩
theorem st_stop (g : List ApiStep → St12 → Option (St12 × List ApiStep)) (l3 : List ApiStep) (h3 : l3.length ≤ 200) (k : Nat) (l5 : List ApiArg) (nm : List UInt8) (L : List ApiWord) (i D S A : Int) (c : ApiWord) (R : List ApiWord) (h0 : 0 ≤ i) (hl : L.length ≤ 5000) (hd : L.drop i.toNat = c :: R) (hc : c.Kind = 5) (hc' : c.S = [41]) :
    p12_steps.l2 zst zar g K l3 (k + 1) l5 nm ⟨L, i, D, S, A, 0⟩ = stEnd g l3 l5 nm ⟨L, i + 1, D, S, A, 0⟩ := by
  rw [p12_steps.l2]
  dsimp only
  rw [if_pos (by simp), is_at h0 hd, Option.bind_some, hc, hc', if_neg (by simp), sign_ok h0 hl hd _ hc hc', Option.bind_some, if_pos (by simp only [List.length_cons, List.length_nil]; omega)]
  rfl
theorem st_args_tl (g : List ApiStep → St12 → Option (St12 × List ApiStep)) (l3 : List ApiStep) (h3 : l3.length ≤ 200) (nm : List UInt8) : ∀ (args : List ApiArg), (∀ a ∈ args, TakesA zar a) → ∀ (k : Nat) (l5 : List ApiArg) (L : List ApiWord) (i D S A : Int) (W : List ApiWord) (c : ApiWord) (R : List ApiWord), args.length + 1 < k → l5 ≠ [] → l5.length + args.length ≤ 12 → 0 ≤ i → L.length ≤ 5000 → 0 ≤ D → D ≤ 12 → 0 ≤ S → S ≤ 150 → L.drop i.toNat = W ++ c :: R → c.Kind = 5 → c.S = [41] → Like W (sepTail 44 (args.map toksA)) →
    (∃ r, p12_steps.l2 zst zar g K l3 k l5 nm ⟨L, i, D, S, A, 0⟩ = some r ∧ r.1.E ≠ 0) ∨ ∃ S', S ≤ S' ∧ S' ≤ 150 ∧ p12_steps.l2 zst zar g K l3 k l5 nm ⟨L, i, D, S, A, 0⟩ = stEnd g l3 (l5 ++ args) nm ⟨L, i + W.length + 1, D, S', A, 0⟩ := by
  intro args
  induction args with
  | nil =>
    intro hm k l5 L i D S A W c R hk h5 h12 h0 hl hD hD' hS hS' hd hc hc' hW
    obtain rfl := Like.nil (show Like _ [] from hW)
    obtain ⟨k, rfl⟩ : ∃ q, k = q + 1 := ⟨k - 1, by omega⟩
    right
    refine ⟨S, Int.le_refl _, hS', ?_⟩
    rw [st_stop g l3 h3 k l5 nm L i D S A c R h0 hl hd hc hc']
    simp
  | cons a r ih =>
    intro hm k l5 L i D S A W c R hk h5 h12 h0 hl hD hD' hS hS' hd hc hc' hW
    simp only [List.length_cons] at hk h12
    rw [List.map_cons, sepTail_cons] at hW
    obtain ⟨w1, W1, rfl, k1, s1, _, _, hW⟩ := hW.cons
    obtain ⟨W2, W3, rfl, hW2, hW3⟩ := hW.split
    have e : w1 :: (W2 ++ W3) ++ c :: R = w1 :: (W2 ++ (W3 ++ c :: R)) := by simp
    rw [e] at hd
    obtain ⟨k, rfl⟩ : ∃ q, k = q + 1 + 1 := ⟨k - 2, by omega⟩
    rw [p12_steps.l2]
    dsimp only
    have h5p : 0 < l5.length := List.length_pos_iff.2 h5
    rw [if_pos (by simp), is_at h0 hd, Option.bind_some, k1, s1, if_pos (by simp), if_pos (by simpa using h5p), sign_ok h0 hl hd _ k1 s1, Option.bind_some]
    have d1 := drop_next h0 hd
    have hR : After (W3 ++ c :: R) := by
      cases r with
      | nil =>
        obtain rfl := Like.nil (show Like _ [] from hW3)
        exact ⟨c, R, rfl, hc, .inr hc'⟩
      | cons b q =>
        rw [List.map_cons, sepTail_cons] at hW3
        obtain ⟨w2, W4, rfl, k2, s2, _, _, _⟩ := hW3.cons
        exact ⟨w2, _, rfl, k2, .inl s2⟩
    rcases st_arg (zst := zst) (K := K) g l3 h3 (hm a List.mem_cons_self) k l5 nm (by omega) L (i + 1) D S A W2 _ (by omega) hl hD hD' hS hS' d1 hR hW2 with hb | ⟨S', q1, q2, hb⟩
    · exact .inl hb
    have d2 := drop_split (by omega) d1
    rcases ih (fun y hy => hm y (List.mem_cons_of_mem _ hy)) (k + 1) (l5 ++ [a]) L (i + 1 + W2.length) D S' A W3 c R (by omega) (by simp) (by simp; omega) (by omega) hl hD hD' (by omega) q2 d2 hc hc' hW3 with hb' | ⟨S'', q3, q4, hb'⟩
    · exact .inl (by rw [hb]; exact hb')
    · refine .inr ⟨S'', by omega, q4, ?_⟩
      rw [hb, hb', List.append_assoc]
      congr 2
      simp only [List.length_cons, List.length_append]
      omega
theorem toksA_head (a : ApiArg) (h : GA1 a) : ∃ w T, toksA a = w :: T ∧ ¬ (w.Kind = 5 ∧ w.S = [41]) := by
  obtain ⟨k, v, p, T⟩ := a
  simp only [GA1] at h
  obtain ⟨h1, h2, h3, h4, h5, h6⟩ := h
  rw [toksA]
  rcases h6 with ⟨rfl, a1, rfl, rfl⟩ | ⟨rfl, rfl, a1, rfl⟩ | ⟨rfl, rfl, rfl⟩ | ⟨rfl, ⟨nm, rfl, a1, a2, a3, a4, a5⟩, rfl, rfl⟩
  · rw [if_neg (by decide), if_neg (by decide), if_neg (by decide)]
    obtain ⟨w, T, e, hn⟩ := toksV_head v
    exact ⟨w, T, e, fun hc => hn ⟨hc.1, .inr hc.2⟩⟩
  · rw [if_pos rfl]
    obtain ⟨op, T', e, _⟩ := toksP_head _ p (Nat.le_refl _) a1.1
    exact ⟨_, _, e, fun hc => absurd hc.1 (by show ¬ (1 : Int) = 5; decide)⟩
  · rw [if_neg (by decide), if_pos rfl]
    exact ⟨_, _, rfl, fun hc => absurd hc.1 (by show ¬ (1 : Int) = 5; decide)⟩
  · rw [if_neg (by decide), if_neg (by decide), if_pos rfl]
    exact ⟨_, _, rfl, fun hc => absurd hc.1 (by show ¬ (1 : Int) = 5; decide)⟩
theorem st_args (g : List ApiStep → St12 → Option (St12 × List ApiStep)) (l3 : List ApiStep) (h3 : l3.length ≤ 200) (nm : List UInt8) (args : List ApiArg) (hm : ∀ a ∈ args, TakesA zar a) (hg : ∀ a ∈ args, GA1 a) (k : Nat) (L : List ApiWord) (i D S A : Int) (W : List ApiWord) (c : ApiWord) (R : List ApiWord) (hk : args.length + 3 < k) (h12 : args.length ≤ 12) (h0 : 0 ≤ i) (hl : L.length ≤ 5000) (hD : 0 ≤ D) (hD' : D ≤ 12) (hS : 0 ≤ S) (hS' : S ≤ 150) (hd : L.drop i.toNat = W ++ c :: R) (hc : c.Kind = 5) (hc' : c.S = [41]) (hW : Like W (sepToks 44 (args.map toksA))) :
    (∃ r, p12_steps.l2 zst zar g K l3 k [] nm ⟨L, i, D, S, A, 0⟩ = some r ∧ r.1.E ≠ 0) ∨ ∃ S', S ≤ S' ∧ S' ≤ 150 ∧ p12_steps.l2 zst zar g K l3 k [] nm ⟨L, i, D, S, A, 0⟩ = stEnd g l3 args nm ⟨L, i + W.length + 1, D, S', A, 0⟩ := by
  obtain ⟨k, rfl⟩ : ∃ q, k = q + 1 + 1 := ⟨k - 2, by omega⟩
  cases args with
  | nil =>
    obtain rfl := Like.nil (show Like _ [] from hW)
    right
    refine ⟨S, Int.le_refl _, hS', ?_⟩
    rw [st_stop g l3 h3 _ [] nm L i D S A c R h0 hl hd hc hc']
    simp
  | cons a r =>
    simp only [List.length_cons] at hk h12
    obtain ⟨W2, W3, rfl, hW2, hW3⟩ := Like.split (T1 := toksA a) (T2 := sepTail 44 (r.map toksA)) hW
    rw [List.append_assoc] at hd
    obtain ⟨t, T, ht, hn⟩ := toksA_head a (hg a List.mem_cons_self)
    have hW2' := hW2
    rw [ht] at hW2'
    obtain ⟨w, W', rfl, w1, w2, _, _, _⟩ := hW2'.cons
    have hd0 := hd
    rw [List.cons_append] at hd0
    rw [p12_steps.l2]
    dsimp only
    have hb : (decide (w.Kind = 5) && decide (w.S = ([41] : List UInt8))) = false := by
      rw [w1, w2]
      simpa using hn
    rw [if_pos (by simp), is_at h0 hd0, Option.bind_some, hb, if_pos (by simp), if_neg (by simp)]
    have hR : After (W3 ++ c :: R) := by
      cases r with
      | nil =>
        obtain rfl := Like.nil (show Like _ [] from hW3)
        exact ⟨c, R, rfl, hc, .inr hc'⟩
      | cons b q =>
        rw [List.map_cons, sepTail_cons] at hW3
        obtain ⟨w2, W4, rfl, k2, s2, _, _, _⟩ := hW3.cons
        exact ⟨w2, _, rfl, k2, .inl s2⟩
    rcases st_arg (zst := zst) (K := K) g l3 h3 (hm a List.mem_cons_self) k [] nm (by simp) L i D S A (w :: W') _ h0 hl hD hD' hS hS' hd hR hW2 with hb | ⟨S', q1, q2, hb⟩
    · exact .inl hb
    have d2 := drop_split (by omega) hd
    rcases st_args_tl (zst := zst) (K := K) g l3 h3 nm r (fun y hy => hm y (List.mem_cons_of_mem _ hy)) (k + 1) ([] ++ [a]) L (i + (w :: W').length) D S' A W3 c R (by omega) (by simp) (by simp; omega) (by omega) hl hD hD' (by omega) q2 d2 hc hc' hW3 with hb' | ⟨S'', q3, q4, hb'⟩
    · exact .inl (by rw [hb]; exact hb')
    · refine .inr ⟨S'', by omega, q4, ?_⟩
      rw [hb, hb']
      simp only [List.nil_append, List.cons_append]
      congr 2
      simp only [List.length_cons, List.length_append]
      omega
theorem st_l1_takes (hK : 100 ≤ K) : ∀ (l : List ApiStep), l ≠ [] → (∀ s ∈ l, GS1 s ∧ ∀ a ∈ s.Args, TakesA zar a) → ∀ (k : Nat) (l3 : List ApiStep) (L : List ApiWord) (i D S A : Int) (W R : List ApiWord), l.length + 1 < k → l3.length + l.length ≤ 150 → 0 ≤ i → L.length ≤ 5000 → 0 ≤ D → D ≤ 12 → 0 ≤ S → S ≤ 150 → L.drop i.toNat = W ++ R → Free 46 R → Like W (sepToks 46 (l.map toksS1)) →
    ∃ r, p12_steps.l1 zst zar K k l3 ⟨L, i, D, S, A, 0⟩ = some r ∧ GoodR L i D S A W.length (l3 ++ l) r := by
  intro l
  induction l with
  | nil => intro h; exact absurd rfl h
  | cons s q ih =>
    intro _ hm k l3 L i D S A W R hk hl3 h0 hl hD hD' hS hS' hd hR hW
    simp only [List.length_cons] at hk hl3
    obtain ⟨k, rfl⟩ : ∃ q, k = q + 1 := ⟨k - 1, by omega⟩
    have hs := hm s List.mem_cons_self
    obtain ⟨W2, W3, rfl, hW2, hW3⟩ := Like.split (T1 := toksS1 s) (T2 := sepTail 46 (q.map toksS1)) hW
    rw [toksS1_eq] at hW2
    obtain ⟨w1, W4, rfl, k1, s1, _, _, hW2⟩ := hW2.cons
    obtain ⟨w2, W4, rfl, k2, s2, _, _, hW2⟩ := hW2.cons
    obtain ⟨W5, W6, rfl, hW5, hW6⟩ := hW2.split
    obtain ⟨w7, W7, rfl, k7, s7, _, _, hW7⟩ := hW6.cons
    obtain rfl := hW7.nil
    have e : w1 :: w2 :: (W5 ++ [w7]) ++ W3 ++ R = w1 :: w2 :: (W5 ++ w7 :: (W3 ++ R)) := by simp
    rw [e] at hd
    have b1 := adrop_lt h0 hd
    have d1 := b1.2.1
    have d2 := drop_next (by omega) d1
    rw [p12_steps.l1]
    dsimp only
    rw [if_pos (by simp)]
    by_cases h150 : 150 ≤ S
    · rw [if_pos (by simpa using h150), fail_at h0 hd, Option.bind_some]
      exact ⟨_, rfl, .inl (by show (3 : Int) ≠ 0; decide)⟩
    rw [if_neg (by simpa using h150), if_pos ⟨h0, b1.1⟩, getD_drop hd, k1, if_neg (by simp), if_pos ⟨h0, b1.1⟩, s1, W_in (x := i + 1) (by omega) (by omega), W_in (x := S + 1) (by omega) (by omega), sign_ok (by omega) hl d1 _ k2 s2, Option.bind_some]
    rcases st_args (zst := zst) (K := K) (p12_steps.l1 zst zar K k) l3 (by omega) s.Name s.Args hs.2 (getD_all fun j hj => GA_get _ j hs.1.split.2 hj) K L (i + 1 + 1) D (S + 1) A W5 w7 (W3 ++ R) (by have := hs.1.split.1; omega) hs.1.split.1 (by omega) hl hD hD' (by omega) (by omega) d2 k7 s7 hW5 with ⟨r, hb1, hb2⟩ | ⟨S', p1, p2, hb⟩
    · exact ⟨r, hb1, .inl hb2⟩
    rw [hb]
    unfold stEnd
    have d3 := drop_next (by omega) (drop_split (by omega) d2)
    have es : (⟨s.Name, s.Args⟩ : ApiStep) = s := by cases s; rfl
    rw [es]
    cases q with
    | nil =>
      obtain rfl := Like.nil (show Like _ [] from hW3)
      obtain ⟨w, r, rfl, hn⟩ := hR
      rw [is_at (by omega) d3, Option.bind_some, if_pos (by rw [Bool.not_eq_true']; exact Bool.eq_false_iff.2 fun h => hn (by simpa using h))]
      refine ⟨_, rfl, .inr ⟨S', by omega, p2, ?_⟩⟩
      simp only [List.length_cons, List.length_append, List.length_nil, Prod.mk.injEq, St12.mk.injEq, and_true, true_and]
      omega
    | cons s' q' =>
      rw [List.map_cons, sepTail_cons] at hW3
      obtain ⟨w8, W8, rfl, k8, s8, _, _, hW8⟩ := hW3.cons
      rw [List.cons_append] at d3
      rw [is_at (by omega) d3, Option.bind_some, k8, s8, if_neg (by simp)]
      have b3 := adrop_lt (by omega) d3
      have d4 := b3.2.1
      dsimp only
      rw [W_in (by omega) (by omega)]
      obtain ⟨r, g1, g2⟩ := ih (by simp) (fun y hy => hm y (List.mem_cons_of_mem _ hy)) k (l3 ++ [s]) L (i + 1 + 1 + W5.length + 1 + 1) D S' A W8 R (by simp only [List.length_cons] at hk ⊢; omega) (by simp only [List.length_append, List.length_cons, List.length_nil] at hl3 ⊢; omega) (by omega) hl hD hD' (by omega) p2 d4 hR hW8
      refine ⟨r, g1, ?_⟩
      rcases g2 with g2 | ⟨S'', t1, t2, rfl⟩
      · exact .inl g2
      · refine .inr ⟨S'', by omega, t2, ?_⟩
        simp only [List.length_cons, List.length_append, List.length_nil, Prod.mk.injEq, St12.mk.injEq, and_true, true_and, List.append_assoc, List.cons_append, List.nil_append]
        omega
end
theorem steps_takes : ∀ (n : Nat) (l : List ApiStep) (K : Nat), nS l ≤ n → n ≤ 600 → l ≠ [] → GS l → l.length ≤ 150 → 100000 + 3 * n ≤ K → TakesS (p12_steps.f K) l := by
  intro n
  induction n with
  | zero => intro l K h1 _ h2; have := nS_pos l h2; omega
  | succ n ih =>
    intro l K h1 hn h2 h3 h4 hK L i D S A W R h0 hl hD hD' hS hS' hd hR hW
    obtain ⟨K, rfl⟩ : ∃ q, K = q + 1 + 1 := ⟨K - 2, by omega⟩
    rw [p12_steps.f, p12_steps.b]
    have := st_l1_takes (zst := p12_steps.f (K + 1)) (zar := p12_arg.f (K + 1)) (K := K + 1) (by omega) l h2 (getD_all fun i hi => by
      have hs := GS_get l i h3 hi
      have hn' := nS_get l i hi
      rw [nS1_eq] at hn'
      refine ⟨hs, getD_all fun j hj => ?_⟩
      have ha := GA_get _ j hs.split.2 hj
      have hna := nA_get _ j hj
      have hg := ha.split
      have := arg_takes K (by omega) _ ha (p12_steps.f K) (p12_arg.f K) (steps_errS K (by omega)) fun h3' => ih _ K (by omega) (by omega) (hg.2.2.1 h3') hg.2.2.2.2 hg.2.2.2.1 (by omega)
      intro L i D S A W R
      rw [p12_arg.f]
      exact this L i D S A W R) (K + 1) [] L i D S A W R (by omega) (by simpa using h4) h0 hl hD hD' hS hS' hd hR hW
    exact this
theorem again (K : Nat) (hK : 1000000 ≤ K) (l : List ApiStep) (hp : Prs l) : ∃ r, r12_Parse.f K ([103, 46] ++ dots (stepsT l)) = some r ∧ (r.2.2 = 0 → r.1 = l) ∧ (r.2.2 ≠ 0 → r.1 = []) := by
  obtain ⟨hp1, hp2, hp3, hp4⟩ := hp
  unfold r12_Parse.f r11_Words.f
  by_cases h3 : 3000 < (([103, 46] ++ dots (stepsT l)).length : Int)
  · rw [if_pos (by simpa using h3), Option.bind_some, if_pos (by simp)]
    exact ⟨_, rfl, fun e => absurd e (show ¬ (3 : Int) = 0 by decide), fun _ => rfl⟩
  have h3' : (([103, 46] ++ dots (stepsT l)).length : Int) ≤ 3000 := by omega
  rw [if_neg (by simpa using h3), w11_eq K (by omega) _ h3' K [] ([103, 46] ++ dots (stepsT l)) 0 (by omega) (by omega) rfl (by simp)]
  have e : ([103, 46] : List UInt8) ++ dots (stepsT l) = [103] ++ 46 :: (dots (stepsT l) ++ []) := by simp
  have hlen : (([103] ++ 46 :: (dots (stepsT l) ++ []) : List UInt8).length) < K := by rw [← e]; omega
  have hn : IsName [103] := ⟨by decide, by decide, _, _, rfl, by decide⟩
  have hx : Lx K K [] ([103, 46] ++ dots (stepsT l)) 0 ([nmW [103]] ++ (sgW 46 :: sepToks 46 (l.map toksS1))) [] := by
    rw [e]
    rw [e] at h3'
    refine (lex_name K (by omega) hn K [] 46 _ 0 (.inr (.inr rfl)) h3' hlen).trans (T' := sgW 46 :: sepToks 46 (l.map toksS1)) fun acc1 k1 i1 g1 => ?_
    simp only [List.length_append, List.length_cons] at h3'
    refine (Lx.sign 46 (by simp) g1).trans fun acc2 k2 i2 g2 => ?_
    exact lex_steps K (by omega) _ l (Nat.le_refl _) hp3 k2 acc2 [] i2 (by simp only [List.length_append, List.length_nil]; omega) g2
  rcases hx with ⟨at_, er, h1, h2⟩ | ⟨W, k', i', h1, h2, h4⟩
  · rw [h2, Option.bind_some, if_pos (by simpa using h1)]
    exact ⟨_, rfl, fun e => absurd e h1, fun _ => rfl⟩
  · obtain ⟨k', rfl⟩ : ∃ q, k' = q + 1 := ⟨k' - 1, by simp only [List.length_nil] at h2; omega⟩
    have hwd := words_sat K (by omega) ([103, 46] ++ dots (stepsT l))
    unfold r11_Words.f at hwd
    rw [if_neg (by simpa using h3), w11_eq K (by omega) _ (by omega) K [] ([103, 46] ++ dots (stepsT l)) 0 (by omega) (by omega) rfl (by simp), h4, w11, List.nil_append] at hwd
    obtain ⟨q, hq, hq'⟩ := hwd
    obtain rfl := Option.some.inj hq
    have hlw := (hq' rfl).len
    rw [h4, w11, List.nil_append, Option.bind_some]
    obtain ⟨w1, W1, rfl, k1, s1, _, _, hW⟩ := h1.cons
    obtain ⟨w2, W2, rfl, k2, s2, _, _, hW⟩ := Like.cons (show Like W1 (sgW 46 :: sepToks 46 (l.map toksS1)) from hW)
    have hl5 : (w1 :: w2 :: W2 ++ [(⟨0, [], 0, 0, i'⟩ : ApiWord)]).length ≤ 5000 := by
      have : ((w1 :: w2 :: W2 ++ [(⟨0, [], 0, 0, i'⟩ : ApiWord)]).length : Int) ≤ 1501 := hlw
      omega
    have d0 : List.drop (Int.toNat 1) (w1 :: w2 :: W2 ++ [(⟨0, [], 0, 0, i'⟩ : ApiWord)]) = w2 :: (W2 ++ [(⟨0, [], 0, 0, i'⟩ : ApiWord)]) := rfl
    have d1 : List.drop (Int.toNat (1 + 1)) (w1 :: w2 :: W2 ++ [(⟨0, [], 0, 0, i'⟩ : ApiWord)]) = W2 ++ [(⟨0, [], 0, 0, i'⟩ : ApiWord)] := rfl
    have hg0 : List.getD (w1 :: w2 :: W2 ++ [(⟨0, [], 0, 0, i'⟩ : ApiWord)]) (Int.toNat 0) default = w1 := rfl
    have hpos : (0 : Int) < ((w1 :: w2 :: W2 ++ [(⟨0, [], 0, 0, i'⟩ : ApiWord)]).length : Int) := by simp; omega
    dsimp only
    rw [if_neg (by simp), if_pos ⟨Int.le_refl _, hpos⟩, hg0, k1, if_pos (fun _ => ⟨Int.le_refl _, hpos⟩), s1, if_neg (by simp), sign_ok (by omega) hl5 d0 _ k2 s2, Option.bind_some]
    obtain ⟨r, r1, r2⟩ := steps_takes 500 l K hp4 (by omega) hp1 hp3 hp2 (by omega) _ (1 + 1) 0 0 0 W2 _ (by omega) hl5 (by omega) (by omega) (by omega) (by omega) d1 ⟨_, [], rfl, fun hc => absurd hc.1 (by show ¬ (0 : Int) = 5; decide)⟩ hW
    rw [r1, Option.bind_some]
    rcases r2 with r2 | ⟨S', t1, t2, rfl⟩
    · rw [if_pos (fun h => absurd (by simpa using h) r2), if_neg (by simp [r2]), r12_Parse.j1, if_pos (by simpa using r2)]
      exact ⟨_, rfl, fun e => absurd e r2, fun _ => rfl⟩
    · have d2 := drop_split (by omega) d1
      have b2 := adrop_lt (by omega) d2
      dsimp only
      rw [if_pos (fun _ => ⟨by omega, b2.1⟩), getD_drop d2, if_neg (by simp), r12_Parse.j1, if_neg (by simp)]
      exact ⟨_, rfl, fun _ => rfl, fun h => absurd rfl h⟩
end Go.Proofs.Ytbjbgodcenopnaa
namespace Go.Proofs.Ytbjbgodcenopnaa
set_option linter.unusedVariables false
set_option linter.unusedSimpArgs false
set_option maxHeartbeats 2000000
def kidsB (b : List ApiIns) : List Int := (b.map ApiIns.Kids).flatten
def Sml (x : ApiIns) : Prop := x.Kids.length ≤ 200 ∧ x.S.length ≤ 200 ∧ x.N.length ≤ 200 ∧ x.V.length ≤ 200 ∧ (∀ v ∈ x.V, wV v ≤ 1600) ∧ wP x.P ≤ 1700
theorem Sml.of {op : Int} {S : List (List UInt8)} {N : List Int} {V : List ApiValue} {P : ApiPred} {k : List Int} {fl : Bool} (hk : k.length ≤ 200 := by simp) (hS : S.length ≤ 200 := by simp) (hN : N.length ≤ 200 := by simp) (hV : V.length ≤ 200 ∧ ∀ v ∈ V, wV v ≤ 1600 := by simp) (hP : wP P ≤ 1700 := by simp [wP, wL, wPs]) : Sml ⟨op, S, N, V, P, k, fl⟩ := ⟨hk, hS, hN, hV.1, hV.2, hP⟩
structure Own (a : Nat) (ks : List Int) (new : List (List ApiIns)) : Prop where
  small : ∀ b ∈ new, b.length ≤ 150 ∧ ∀ x ∈ b, Sml x
theorem Own.none {a : Nat} {ks : List Int} : Own a ks [] := ⟨fun b hb => by cases hb⟩
theorem Own.seq {a b c : Nat} {ks ks1 ks2 : List Int} {n1 n2 : List (List ApiIns)} (h1 : Own a ks1 n1) (h2 : Own b ks2 n2) : Own c ks (n1 ++ n2) :=
  ⟨fun b hb => (List.mem_append.1 hb).elim (h1.small b) (h2.small b)⟩
theorem Own.body {a b : Nat} {ks ks' : List Int} {ins : List ApiIns} {rest : List (List ApiIns)} (h : Own b ks' rest) (hs : ins.length ≤ 150 ∧ ∀ x ∈ ins, Sml x) : Own a ks (ins :: rest) :=
  ⟨fun b hb => (List.mem_cons.1 hb).elim (fun e => by rw [e]; exact hs) (h.small b)⟩
def Res (m : OCM) (B : Nat) (ks : List Int) (m' : OCM) : Prop := ∃ new, m'.out = m.out ++ new ∧ Own m.out.length ks new ∧ new.length ≤ B
theorem Res.none (m : OCM) (B : Nat) {ks : List Int} : Res m B ks m := ⟨[], by simp, Own.none, by simp⟩
theorem Res.seq {m m1 m2 : OCM} {B1 B2 : Nat} {ks ks1 ks2 : List Int} (h1 : Res m B1 ks1 m1) (h2 : Res m1 B2 ks2 m2) : Res m (B1 + B2) ks m2 := by
  obtain ⟨n1, e1, o1, l1⟩ := h1
  obtain ⟨n2, e2, o2, l2⟩ := h2
  exact ⟨n1 ++ n2, by rw [e2, e1, List.append_assoc], o1.seq o2, by rw [List.length_append]; omega⟩
theorem Res.mono {m m' : OCM} {B B' : Nat} {ks ks' : List Int} (h : Res m B ks m') (hB : B ≤ B') : Res m B' ks' m' := by
  obtain ⟨n, e, o, l⟩ := h
  exact ⟨n, e, ⟨o.small⟩, by omega⟩
theorem Res.len {m m' : OCM} {B : Nat} {ks : List Int} (h : Res m B ks m') : m'.out.length ≤ m.out.length + B := by
  obtain ⟨n, e, o, l⟩ := h
  rw [e, List.length_append]; omega
end Go.Proofs.Ytbjbgodcenopnaa
namespace Go.Proofs.Ytbjbgodcenopnaa
set_option linter.unusedVariables false
set_option linter.unusedSimpArgs false
set_option maxHeartbeats 2000000
theorem names_sat (K : Nat) (hK : 300 < K) (l : List ApiArg) (hl : l.length ≤ 200) : Sat (code_names.f K l) fun r => r.length ≤ 200 := by
  have key : ∀ (k : Nat) (acc : List (List UInt8)) (i : Int), 0 ≤ i → i ≤ (l.length : Int) → (acc.length : Int) ≤ i → (l.length : Int) - i < k → Sat (code_names.l1 K k acc l (l.length : Int) i) fun r => r.length ≤ 200 := by
    intro k
    induction k with
    | zero => intro acc i h0 h1 h2 h3; omega
    | succ k ih =>
      intro acc i h0 h1 h2 h3
      rw [code_names.l1]
      refine Sat.ite (fun h => ?_) (fun _ => Sat.some (by omega))
      have hi : i < (l.length : Int) := by simpa using h
      refine Sat.chk ⟨h0, hi⟩ (Sat.chk (by simp only [List.length_cons, List.length_nil]; omega) ?_)
      rw [W_in (by omega) (by omega)]
      exact ih _ (i + 1) (by omega) (by omega) (by simp only [List.length_append, List.length_cons, List.length_nil]; omega) (by omega)
  unfold code_names.f
  exact key K [] 0 (by omega) (by omega) (by simp) (by omega)
theorem numbers_sat (K : Nat) (hK : 300 < K) (l : List ApiArg) (hl : l.length ≤ 200) : Sat (code_numbers.f K l) fun r => r.length ≤ 200 := by
  have key : ∀ (k : Nat) (acc : List Int) (i : Int), 0 ≤ i → i ≤ (l.length : Int) → (acc.length : Int) ≤ i → (l.length : Int) - i < k → Sat (code_numbers.l1 K k acc l (l.length : Int) i) fun r => r.length ≤ 200 := by
    intro k
    induction k with
    | zero => intro acc i h0 h1 h2 h3; omega
    | succ k ih =>
      intro acc i h0 h1 h2 h3
      rw [code_numbers.l1]
      refine Sat.ite (fun h => ?_) (fun _ => Sat.some (by omega))
      have hi : i < (l.length : Int) := by simpa using h
      refine Sat.chk ⟨h0, hi⟩ (Sat.chk (by simp only [List.length_cons, List.length_nil]; omega) ?_)
      rw [W_in (by omega) (by omega)]
      exact ih _ (i + 1) (by omega) (by omega) (by simp only [List.length_append, List.length_cons, List.length_nil]; omega) (by omega)
  unfold code_numbers.f
  exact key K [] 0 (by omega) (by omega) (by simp) (by omega)
theorem wL_len : ∀ l : List ApiValue, l.length ≤ wL l
  | [] => by simp [wL]
  | x :: r => by
    have := wL_len r
    have := wV_eq x
    simp only [wL, List.length_cons]; omega
theorem wL_get : ∀ (l : List ApiValue) (i : Nat), i < l.length → wV (List.getD l i default) ≤ wL l
  | [], i, h => by simp at h
  | x :: r, 0, _ => by simp only [wL, List.getD_cons_zero]; omega
  | x :: r, i + 1, h => by have := wL_get r i (by simpa using h); simp only [wL, List.getD_cons_succ]; omega
theorem copy_eq : ∀ (n : Nat) (v : ApiValue) (K : Nat), wV v ≤ n → n ≤ 2000 → n + 3000 ≤ K → val_Copy.f K v = some v := by
  intro n
  induction n with
  | zero => intro v K h; have := wV_eq v; omega
  | succ n ih =>
    intro v K h hn hK
    obtain ⟨K, rfl⟩ : ∃ q, K = q + 1 := ⟨K - 1, by omega⟩
    have hv := wV_eq v
    have hl := wL_len v.L
    rw [val_Copy.f, val_Copy.b, if_pos ⟨by omega, by omega⟩]
    have key : ∀ (k i : Nat), i ≤ v.L.length → v.L.length - i < k → val_Copy.l1 (val_Copy.f K) K k (v.L.take i ++ List.replicate (v.L.length - i) default) v v.L (v.L.length : Int) (i : Int) = some v := by
      intro k
      induction k with
      | zero => intro i h0 h1; omega
      | succ k ihk =>
        intro i h0 h1
        rw [val_Copy.l1]
        by_cases hi : i < v.L.length
        · rw [if_pos (decide_eq_true (by omega)), if_pos ⟨by omega, by omega⟩, Int.toNat_natCast]
          have hw := wL_get v.L i hi
          rw [ih _ K (by omega) (by omega) (by omega), Option.bind_some, if_pos ⟨by omega, by simp; omega⟩, W_in (by omega) (by omega), show (i : Int) + 1 = ((i + 1 : Nat) : Int) by omega]
          have e : (v.L.take i ++ List.replicate (v.L.length - i) default).set i (v.L.getD i default) = v.L.take (i + 1) ++ List.replicate (v.L.length - (i + 1)) default := by
            obtain ⟨j, hj⟩ : ∃ j, v.L.length - i = j + 1 := ⟨v.L.length - i - 1, by omega⟩
            rw [hj, show v.L.length - (i + 1) = j by omega, List.replicate_succ, List.set_append_right _ _ (by simp; omega)]
            have e0 : i - (v.L.take i).length = 0 := by simp; omega
            rw [e0, List.set_cons_zero, List.take_add_one, List.getD_eq_getElem?_getD, List.getElem?_eq_getElem hi]
            simp only [Option.toList_some, Option.getD_some, List.append_assoc, List.cons_append, List.nil_append]
          rw [e]
          exact ihk (i + 1) (by omega) (by omega)
        · have e : i = v.L.length := by omega
          rw [if_neg (by rw [decide_eq_true_eq]; omega), e, List.take_length, Nat.sub_self, List.replicate_zero, List.append_nil]
          cases v; rfl
    have := key K 0 (by omega) (by omega)
    simpa using this
theorem values_sat (K : Nat) (hK : 6000 < K) (l : List ApiArg) (hl : l.length ≤ 200) (hw : ∀ a ∈ l, wV a.V ≤ 1600) : Sat (code_values.f K l) fun r => r.length ≤ 200 ∧ ∀ v ∈ r, wV v ≤ 1600 := by
  have key : ∀ (k : Nat) (acc : List ApiValue) (i : Int), 0 ≤ i → i ≤ (l.length : Int) → (acc.length : Int) ≤ i → (l.length : Int) - i < k → (∀ v ∈ acc, wV v ≤ 1600) → Sat (code_values.l1 K k acc l (l.length : Int) i) fun r => r.length ≤ 200 ∧ ∀ v ∈ r, wV v ≤ 1600 := by
    intro k
    induction k with
    | zero => intro acc i h0 h1 h2 h3; omega
    | succ k ih =>
      intro acc i h0 h1 h2 h3 h4
      rw [code_values.l1]
      refine Sat.ite (fun h => ?_) (fun _ => Sat.some ⟨by omega, h4⟩)
      have hi : i < (l.length : Int) := by simpa using h
      have hv := hw _ (getD_mem l i.toNat (by omega))
      refine Sat.chk ⟨h0, hi⟩ (Sat.bindE (copy_eq 1600 _ K hv (by omega) (by omega)) (Sat.chk (by simp only [List.length_cons, List.length_nil]; omega) ?_))
      rw [W_in (by omega) (by omega)]
      refine ih _ (i + 1) (by omega) (by omega) (by simp only [List.length_append, List.length_cons, List.length_nil]; omega) (by omega) fun v h => ?_
      rcases List.mem_append.1 h with h | h
      · exact h4 v h
      · simp only [List.mem_cons, List.not_mem_nil, or_false] at h
        rw [h]; exact hv
  unfold code_values.f
  exact key K [] 0 (by omega) (by omega) (by simp) (by omega) (fun v h => by cases h)
theorem cpred_sat (K : Nat) (hK : 6000 < K) (a : ApiArg) (hw : wV a.V ≤ 1600) (hp : wP a.P ≤ 1600) : Sat (code_pred.f K a) fun r => wP r ≤ 1700 := by
  unfold code_pred.f
  exact Sat.ite (fun _ => Sat.bindE (copy_eq 1600 _ K hw (by omega) (by omega)) (Sat.some (by rw [wP, wL, wL, wPs]; omega))) (fun _ => Sat.some (by omega))
theorem nA_take : ∀ (l : List ApiArg) (j : Nat), j < l.length → nA (l.take (j + 1)) = nA (l.take j) + nS (List.getD l j default).T
  | [], j, h => by simp at h
  | ⟨_, _, _, _⟩ :: r, 0, _ => by simp [nA, nA1]
  | x :: r, j + 1, h => by
    have := nA_take r j (by simpa using h)
    simp only [List.take_succ_cons, nA, List.getD_cons_succ, this]; omega
theorem nA_take_le : ∀ (l : List ApiArg) (j : Nat), nA (l.take j) ≤ nA l
  | [], j => by simp
  | x :: r, 0 => by simp [nA]
  | x :: r, j + 1 => by have := nA_take_le r j; simp only [List.take_succ_cons, nA]; omega
theorem nS_take : ∀ (l : List ApiStep) (j : Nat), j < l.length → nS (l.take (j + 1)) = nS (l.take j) + nS1 (List.getD l j default)
  | [], j, h => by simp at h
  | x :: r, 0, _ => by simp [nS]
  | x :: r, j + 1, h => by
    have := nS_take r j (by simpa using h)
    simp only [List.take_succ_cons, nS, List.getD_cons_succ, this]; omega
theorem nS_take_le : ∀ (l : List ApiStep) (j : Nat), nS (l.take j) ≤ nS l
  | [], j => by simp
  | x :: r, 0 => by simp [nS]
  | x :: r, j + 1 => by have := nS_take_le r j; simp only [List.take_succ_cons, nS]; omega
def Tr (T : List ApiStep) : Prop := T ≠ [] ∧ GS T ∧ T.length ≤ 150 ∧ (∀ i, i < T.length → PlAt T i) ∧ CS T
theorem tr_of {a : ApiArg} (h3 : a.Kind = 3) (hg : GA1 a) (hc : CA1 a) : Tr a.T := by
  obtain ⟨_, _, g1, g2, g3⟩ := hg.split
  cases a
  simp only [CA1] at hc
  exact ⟨g1 h3, g3, g2, hc h3⟩
structure StOk (s : ApiStep) : Prop where
  g : GS1 s
  c : CS1 s
theorem StOk.args {s : ApiStep} (h : StOk s) : s.Args.length ≤ 12 := h.g.split.1
theorem StOk.wv {s : ApiStep} (h : StOk s) : ∀ a ∈ s.Args, wV a.V ≤ 1600 := getD_all fun i hi => (GA_get _ i h.g.split.2 hi).split.1
theorem wP_arg1 {a : ApiArg} (h : GA1 a) : wP a.P ≤ 1600 := by
  have h6 := h.split6.2.2.2.2.2
  rcases h6 with ⟨_, _, e, _⟩ | ⟨_, _, e, _⟩ | ⟨_, _, e⟩ | ⟨_, _, e, _⟩
  · rw [e]; simp [wP, wL, wPs]
  · exact e.2
  · rw [e]; simp [wP, wL, wPs]
  · rw [e]; simp [wP, wL, wPs]
theorem StOk.wp {s : ApiStep} (h : StOk s) : ∀ a ∈ s.Args, wP a.P ≤ 1600 := getD_all fun i hi => wP_arg1 (GA_get _ i h.g.split.2 hi)
theorem StOk.fit {s : ApiStep} (h : StOk s) : Fit s := h.c.split.1.2
theorem StOk.arg {s : ApiStep} (h : StOk s) (j : Nat) (hj : j < s.Args.length) (h3 : (List.getD s.Args j default).Kind = 3) : Tr (List.getD s.Args j default).T :=
  tr_of h3 (GA_get _ j h.g.split.2 hj) (CA_get _ j h.c.split.2 hj)
abbrev BF := OCM → List ApiStep → Option (Int × OCM)
def HB (F : BF) (N : Nat) : Prop := ∀ T, Tr T → nS T ≤ N → ∀ m : OCM, m.out.length + nS T ≤ 5000 → Sat (F m T) fun r => Res m (nS T) [r.1] r.2
section
variable {N : Nat} (f1 : BF) (f2 : OCM → ApiStep → List ApiStep → Option (ApiIns × OCM)) (f3 : OCM → List ApiArg → Option (List Int × OCM)) (f4 : OCM → ApiStep → List ApiStep → Option (ApiIns × OCM)) (f5 : OCM → List ApiStep → Int → Option (List Int × OCM)) (f6 : OCM → ApiStep → Option (Int × OCM)) (f7 : OCM → List ApiStep → Option (ApiIns × OCM)) (f8 : OCM → ApiStep → List ApiStep → Option (ApiIns × OCM)) (f9 : OCM → ApiStep → List ApiStep → Option (ApiIns × OCM))
theorem kids_sat (hB : HB f1 N) (K : Nat) (hK : 300 < K) (args : List ApiArg) (hA : ∀ a ∈ args, Tr a.T) (hN : nA args ≤ N) (hl : args.length ≤ 12) (m : OCM) (hm : m.out.length + nA args ≤ 5000) :
    Sat (cm_kids.b f1 f2 f3 f4 f5 f6 f7 f8 f9 K m args) fun r => Res m (nA args) r.1 r.2 ∧ r.1.length ≤ 200 := by
  have key : ∀ (k j : Nat) (ks : List Int) (m1 : OCM), j ≤ args.length → args.length - j < k → ks.length = j → Res m (nA (args.take j)) ks m1 → Sat (cm_kids.l1 f1 f2 f3 f4 f5 f6 f7 f8 f9 K k ks m1.out args (args.length : Int) (j : Int)) fun r => Res m (nA args) r.1 r.2 ∧ r.1.length ≤ 200 := by
    intro k
    induction k with
    | zero => intro j ks m1 h0 h1; omega
    | succ k ih =>
      intro j ks m1 h0 h1 hks hr
      have hrl := hr.len
      have htl := nA_take_le args j
      rw [cm_kids.l1]
      refine Sat.ite (fun h => ?_) (fun h => Sat.some ⟨hr.mono htl, by show ks.length ≤ 200; omega⟩)
      have hlt : (j : Int) < (args.length : Int) := by simpa using h
      refine Sat.chk ⟨by omega, hlt⟩ ?_
      rw [Int.toNat_natCast]
      have hmem := getD_mem args j (by omega)
      have hn := nA_get args j (by omega)
      have ht := nA_take args j (by omega)
      have htl1 := nA_take_le args (j + 1)
      refine Sat.bind (hB _ (hA _ hmem) (by omega) m1 (by omega)) fun t htt => Sat.chk (by simp only [List.length_cons, List.length_nil]; omega) ?_
      rw [W_in (by omega) (by omega), show (j : Int) + 1 = ((j + 1 : Nat) : Int) by omega]
      exact ih (j + 1) _ t.2 (by omega) (by omega) (by simp [hks]) (by rw [ht]; exact hr.seq htt)
  unfold cm_kids.b
  exact key K 0 [] m (by omega) (by omega) rfl (Res.none m _)
theorem by_sat (hB : HB f1 N) (K : Nat) (hK : 6000 < K) (y : ApiStep) (hy : StOk y) (hN : nA y.Args ≤ N) (m : OCM) (hm : m.out.length + nS1 y ≤ 5000) :
    Sat (cm_by.b f1 f2 f3 f4 f5 f6 f7 f8 f9 K m y) fun r => Res m (nS1 y) [r.1] r.2 := by
  unfold cm_by.b
  have hlen := hy.args
  have h1 := nS1_eq y
  have hc : decide ((y.Args.length : Int) = 0) = false → (0 : Int) ≤ 0 ∧ (0 : Int) < (y.Args.length : Int) := by
    intro h
    have : ¬ (y.Args.length : Int) = 0 := by simpa using h
    omega
  refine Sat.chk hc ?_
  refine Sat.ite (fun _ => Sat.some (Res.none m _)) (fun h => ?_)
  simp only [Bool.or_eq_false_iff] at h
  have h0 := hc h.1
  refine Sat.chk h0 ?_
  refine Sat.ite (fun h3 => ?_) (fun _ => ?_)
  · have h3' : (List.getD y.Args 0 default).Kind = 3 := by simpa using h3
    have hn := nA_get y.Args 0 (by omega)
    exact Sat.bind (hB _ (hy.arg 0 (by omega) h3') (by omega) m (by show _ + nS (List.getD y.Args 0 default).T ≤ _; omega)) fun t ht => Sat.some (ht.mono (by show nS (List.getD y.Args 0 default).T ≤ _; omega))
  · refine Sat.chk ⟨by omega, by omega, by omega⟩ ?_
    refine Sat.bind (names_sat K (by omega) _ (by simp only [List.length_take, List.length_drop]; omega)) fun t2 h2 => ?_
    refine Sat.chk (by simp only [List.length_cons, List.length_nil]; omega) (Sat.some ?_)
    refine ⟨[[⟨22, t2, [], [], ⟨[], [], []⟩, [], false⟩]], rfl, ?_, by simp only [List.length_cons, List.length_nil]; omega⟩
    exact Own.body (Own.none (a := 0) (ks := [])) ⟨by simp, fun x hx => by
      simp only [List.mem_cons, List.not_mem_nil, or_false] at hx
      rw [hx]; exact Sml.of (hS := h2)⟩
theorem bys_sat (hB : HB f1 N) (K' : Nat) (hK' : 6000 < K') (hf6 : ∀ m y, f6 m y = cm_by.b f1 f2 f3 f4 f5 f6 f7 f8 f9 K' m y ∨ True) (hby : ∀ y, StOk y → nA y.Args ≤ N → ∀ m : OCM, m.out.length + nS1 y ≤ 5000 → Sat (f6 m y) fun r => Res m (nS1 y) [r.1] r.2)
    (K : Nat) (hK : 300 < K) (mods : List ApiStep) (hm : ∀ y ∈ mods, StOk y) (hN : nS mods ≤ N) (n : Nat) (hn : n ≤ 200) (m : OCM) (hmo : m.out.length + nS mods ≤ 5000) :
    Sat (cm_bys.b f1 f2 f3 f4 f5 f6 f7 f8 f9 K m mods (n : Int)) fun r => Res m (nS mods) r.1 r.2 ∧ r.1.length = n := by
  have key : ∀ (k j : Nat) (ks : List Int) (m1 : OCM), j ≤ n → n - j < k → ks.length = j → Res m (nS (mods.take j)) ks m1 → Sat (cm_bys.l1 f1 f2 f3 f4 f5 f6 f7 f8 f9 K k ks m1.out mods (n : Int) (j : Int)) fun r => Res m (nS mods) r.1 r.2 ∧ r.1.length = n := by
    intro k
    induction k with
    | zero => intro j ks m1 h0 h1; omega
    | succ k ih =>
      intro j ks m1 h0 h1 hks hr
      have hrl := hr.len
      have htl := nS_take_le mods j
      rw [cm_bys.l1]
      refine Sat.ite (fun h => ?_) (fun h => Sat.some ⟨hr.mono htl, ?_⟩)
      · have hlt : (j : Int) < (n : Int) := by simpa using h
        have nxt : ∀ (v : Int) (m2 : OCM), Res m (nS (mods.take (j + 1))) (ks ++ [v]) m2 → Sat (cm_bys.j1 f1 f2 f3 f4 f5 f6 f7 f8 f9 (cm_bys.l1 f1 f2 f3 f4 f5 f6 f7 f8 f9 K k) K ks m2.out mods v (n : Int) (j : Int)) fun r => Res m (nS mods) r.1 r.2 ∧ r.1.length = n := by
          intro v m2 h2
          unfold cm_bys.j1
          refine Sat.chk (by simp only [List.length_cons, List.length_nil]; omega) ?_
          rw [W_in (by omega) (by omega), show (j : Int) + 1 = ((j + 1 : Nat) : Int) by omega]
          exact ih (j + 1) _ m2 (by omega) (by omega) (by simp [hks]) h2
        refine Sat.ite (fun hj => ?_) (fun hj => ?_)
        · have hj' : (j : Int) < (mods.length : Int) := by simpa using hj
          refine Sat.chk ⟨by omega, hj'⟩ ?_
          rw [Int.toNat_natCast]
          have hmem := getD_mem mods j (by omega)
          have hn1 := nS_get mods j (by omega)
          have ht := nS_take mods j (by omega)
          have htl1 := nS_take_le mods (j + 1)
          have he := nS1_eq (List.getD mods j default)
          exact Sat.bind (hby _ (hm _ hmem) (by omega) m1 (by omega)) fun t htt => nxt t.1 t.2 (by rw [ht]; exact hr.seq htt)
        · have hj' : ¬ (j : Int) < (mods.length : Int) := by simpa using hj
          refine nxt (-1) m1 ?_
          have e : mods.take (j + 1) = mods.take j := by rw [List.take_of_length_le (by omega), List.take_of_length_le (by omega)]
          rw [e]
          exact hr.mono (Nat.le_refl _)
      · have hge : ¬ (j : Int) < (n : Int) := by simpa using h
        show ks.length = n
        omega
  unfold cm_bys.b
  exact key K 0 [] m (by omega) (by omega) rfl (Res.none m _)
end
end Go.Proofs.Ytbjbgodcenopnaa
namespace Go.Proofs.Ytbjbgodcenopnaa
set_option linter.unusedVariables false
set_option linter.unusedSimpArgs false
set_option maxHeartbeats 2000000
structure MP (h : List UInt8) (mods : List ApiStep) : Prop where
  prev : ∀ j, j < mods.length → (if j = 0 then h else nm mods (j - 1)) ∈ aft (nm mods j)
  once : ∀ q j, q < j → j < mods.length → nm mods j ≠ nBy → nm mods q ≠ nm mods j
theorem aft_addE {p n : List UInt8} (h : p ∈ aft n) (hp : p = nAddE ∨ p = nTo ∨ p = nFrom) : n = nTo ∨ n = nFrom := by
  rcases aft_cases (fun e => by rw [e] at h; cases h) with e | e | e | e | e | e
  · rw [e] at h
    rcases hp with rfl | rfl | rfl <;> exact absurd h (by decide)
  · rw [e] at h
    rcases hp with rfl | rfl | rfl <;> exact absurd h (by decide)
  · rw [e] at h
    rcases hp with rfl | rfl | rfl <;> exact absurd h (by decide)
  · rw [e] at h
    rcases hp with rfl | rfl | rfl <;> exact absurd h (by decide)
  · exact .inl e
  · exact .inr e
theorem MP.addE {mods : List ApiStep} (h : MP nAddE mods) : ∀ j, j < mods.length → nm mods j = nTo ∨ nm mods j = nFrom := by
  intro j
  induction j with
  | zero => intro hj; exact aft_addE (h.prev 0 hj) (.inl rfl)
  | succ j ih =>
    intro hj
    have := h.prev (j + 1) hj
    rw [if_neg (by omega)] at this
    exact aft_addE this (.inr (ih (by omega)))
section
variable {N : Nat} (f1 : BF) (f2 : OCM → ApiStep → List ApiStep → Option (ApiIns × OCM)) (f3 : OCM → List ApiArg → Option (List Int × OCM)) (f4 : OCM → ApiStep → List ApiStep → Option (ApiIns × OCM)) (f5 : OCM → List ApiStep → Int → Option (List Int × OCM)) (f6 : OCM → ApiStep → Option (Int × OCM)) (f7 : OCM → List ApiStep → Option (ApiIns × OCM)) (f8 : OCM → ApiStep → List ApiStep → Option (ApiIns × OCM)) (f9 : OCM → ApiStep → List ApiStep → Option (ApiIns × OCM))
theorem order_sat (K : Nat) (hK : 300 < K) (mods : List ApiStep) (hA : ∀ y ∈ mods, y.Args.length ≤ 12) (hl : mods.length ≤ 150) (m : OCM)
    (h5 : ∀ n : Nat, n ≤ 200 → Sat (f5 m mods (n : Int)) fun r => Res m (nS mods) r.1 r.2 ∧ r.1.length = n) :
    Sat (cm_order.b f1 f2 f3 f4 f5 f6 f7 f8 f9 K m mods) fun r => Res m (nS mods) r.1.Kids r.2 ∧ Sml r.1 := by
  unfold cm_order.b
  obtain ⟨n, hn, hn2⟩ : ∃ n : Nat, (if (mods.length : Int) < 1 then (1 : Int) else (mods.length : Int)) = (n : Int) ∧ n ≤ 200 := by
    by_cases h : (mods.length : Int) < 1
    · rw [if_pos h]; exact ⟨1, rfl, by omega⟩
    · rw [if_neg h]; exact ⟨mods.length, rfl, by omega⟩
  rw [hn]
  refine Sat.bind (h5 n hn2) fun t ht => ?_
  obtain ⟨hr, hlen⟩ := ht
  have key : ∀ (k i : Nat) (l5 : List Int), i ≤ n → n - i < k → l5.length = i → Sat (cm_order.l1 f1 f2 f3 f4 f5 f6 f7 f8 f9 K k l5 36 [] [] ⟨[], [], []⟩ t.1 false t.2.out mods (t.1.length : Int) (i : Int)) fun r => Res m (nS mods) r.1.Kids r.2 ∧ Sml r.1 := by
    intro k
    induction k with
    | zero => intro i l5 h0 h1; omega
    | succ k ih =>
      intro i l5 h0 h1 hl5
      rw [cm_order.l1]
      refine Sat.ite (fun h => ?_) (fun _ => Sat.some ⟨hr, Sml.of (hk := by omega) (hN := by omega)⟩)
      have hlt : (i : Int) < (t.1.length : Int) := by simpa using h
      have nxt : ∀ v : Int, Sat (cm_order.j1 f1 f2 f3 f4 f5 f6 f7 f8 f9 (cm_order.l1 f1 f2 f3 f4 f5 f6 f7 f8 f9 K k) K t.2.out l5 36 [] [] ⟨[], [], []⟩ t.1 false mods v (t.1.length : Int) (i : Int)) fun r => Res m (nS mods) r.1.Kids r.2 ∧ Sml r.1 := by
        intro v
        unfold cm_order.j1
        refine Sat.chk (by simp only [List.length_cons, List.length_nil]; omega) ?_
        rw [W_in (by omega) (by omega), show (i : Int) + 1 = ((i + 1 : Nat) : Int) by omega]
        exact ih (i + 1) _ (by omega) (by omega) (by simp [hl5])
      refine Sat.ite (fun hj => ?_) (fun _ => nxt 0)
      have hj' : (i : Int) < (mods.length : Int) := by simpa using hj
      refine Sat.chk ⟨by omega, hj'⟩ ?_
      rw [Int.toNat_natCast]
      have hmem := hA _ (getD_mem mods i (by omega))
      have hb : 0 < ((List.getD mods i default).Args.length : Int) → (0 : Int) ≤ IntKind.wrap .i64 (((List.getD mods i default).Args.length : Int) - 1) ∧ IntKind.wrap .i64 (((List.getD mods i default).Args.length : Int) - 1) < ((List.getD mods i default).Args.length : Int) := by
        intro h
        rw [W_in (by omega) (by omega)]; omega
      refine Sat.chk (fun h => hb (by simpa using h)) (Sat.chk (fun h => ?_) (Sat.ite (fun _ => nxt 1) (fun _ => nxt 0)))
      simp only [Bool.and_eq_true, decide_eq_true_eq] at h
      exact hb h.1
  exact key K 0 [] (by omega) (by omega) rfl
theorem repeat_sat (hB : HB f1 N) (K : Nat) (hK : 300 < K) (s : ApiStep) (hs : StOk s) (hsn : s.Name = nRepeat) (mods : List ApiStep) (hm : ∀ y ∈ mods, StOk y) (hp : MP nRepeat mods) (hl : mods.length ≤ 150) (hN : nA s.Args + nS mods ≤ N) (m : OCM) (hmo : m.out.length + nA s.Args + nS mods ≤ 5000) :
    Sat (cm_repeat.b f1 f2 f3 f4 f5 f6 f7 f8 f9 K m s mods) fun r => Res m (nA s.Args + nS mods) r.1.Kids r.2 ∧ Sml r.1 := by
  unfold cm_repeat.b
  have hf := hs.fit
  rw [Fit, hsn] at hf
  have hlen : 1 ≤ s.Args.length := hf.1
  have hk3 := hf.2 rfl
  refine Sat.chk ⟨by omega, by omega⟩ ?_
  have hn0 := nA_get s.Args 0 (by omega)
  refine Sat.bind (hB _ (hs.arg 0 (by omega) (hk3 _ (getD_mem _ 0 (by omega)))) (by omega) m (by omega)) fun t ht => ?_
  have key : ∀ (k j : Nat) (b : Bool) (l6 l5 : List Int) (m1 : OCM) (k0 u : Int), l6 = [k0, u] → l5.length = 1 → j ≤ mods.length → mods.length - j < k → Res m (nA s.Args + nS (mods.take j)) l6 m1 →
      Sat (cm_repeat.l1 f1 f2 f3 f4 f5 f6 f7 f8 f9 K k 42 [] [] ⟨[], [], []⟩ b l6 m1.out l5 mods (mods.length : Int) (j : Int)) fun r => Res m (nA s.Args + nS mods) r.1.Kids r.2 ∧ Sml r.1 := by
    intro k
    induction k with
    | zero => intro j b l6 l5 m1 k0 u h6 h5 h0 h1; omega
    | succ k ih =>
      intro j b l6 l5 m1 k0 u h6 h5 h0 h1 hr
      have hrl := hr.len
      have htl := nS_take_le mods j
      rw [cm_repeat.l1]
      refine Sat.ite (fun h => ?_) (fun _ => Sat.some ⟨hr.mono (by omega), Sml.of (hk := by rw [h6]; simp) (hN := by omega)⟩)
      have hlt : (j : Int) < (mods.length : Int) := by simpa using h
      refine Sat.chk ⟨by omega, hlt⟩ ?_
      rw [Int.toNat_natCast]
      have hmem := getD_mem mods j (by omega)
      have hy := hm _ hmem
      have hn1 := nS_get mods j (by omega)
      have ht1 := nS_take mods j (by omega)
      have htl1 := nS_take_le mods (j + 1)
      have he := nS1_eq (List.getD mods j default)
      have nxt : ∀ (b' : Bool) (l6' l5' : List Int) (m2 : OCM) (k0 u' : Int), l6' = [k0, u'] → l5'.length = 1 → Res m (nA s.Args + nS (mods.take (j + 1))) l6' m2 → Sat (cm_repeat.j1 f1 f2 f3 f4 f5 f6 f7 f8 f9 (cm_repeat.l1 f1 f2 f3 f4 f5 f6 f7 f8 f9 K k) K 42 [] [] ⟨[], [], []⟩ b' l6' m2.out l5' mods (mods.length : Int) (j : Int)) fun r => Res m (nA s.Args + nS mods) r.1.Kids r.2 ∧ Sml r.1 := by
        intro b' l6' l5' m2 k0 u' a1 a2 a4
        unfold cm_repeat.j1
        rw [W_in (by omega) (by omega), show (j : Int) + 1 = ((j + 1 : Nat) : Int) by omega]
        exact ih (j + 1) b' l6' l5' m2 k0 u' a1 a2 (by omega) (by omega) a4
      have hstay : Res m (nA s.Args + nS (mods.take (j + 1))) l6 m1 := hr.mono (by omega)
      refine Sat.ite (fun hti => ?_) (fun _ => Sat.ite (fun hun => ?_) (fun _ => ?_))
      · have hti' : (List.getD mods j default).Name = nTimes := by simpa using hti
        have hf1 := hy.fit.1
        rw [hti'] at hf1
        have hl1 : 1 ≤ (List.getD mods j default).Args.length := hf1
        refine Sat.chk ⟨by omega, by omega⟩ (Sat.chk ⟨by omega, by omega⟩ ?_)
        exact nxt b l6 _ m1 k0 u h6 (by simpa using h5) hstay
      · have hun' : (List.getD mods j default).Name = nUntil := by simpa using hun
        have hfy := hy.fit
        rw [Fit, hun'] at hfy
        have hl1 : 1 ≤ (List.getD mods j default).Args.length := hfy.1
        refine Sat.chk ⟨by omega, by omega⟩ ?_
        have hk3y := hfy.2 rfl _ (getD_mem _ 0 (by omega))
        have hn2 := nA_get (List.getD mods j default).Args 0 (by omega)
        refine Sat.bind (hB _ (hy.arg 0 (by omega) hk3y) (by show nS (List.getD (List.getD mods j default).Args 0 default).T ≤ N; omega) m1 (by show m1.out.length + nS (List.getD (List.getD mods j default).Args 0 default).T ≤ 5000; omega)) fun t2 ht2 => ?_
        refine Sat.chk ⟨by omega, by rw [h6]; simp⟩ ?_
        have h7 : List.set l6 (Int.toNat 1) t2.1 = [k0, t2.1] := by rw [h6]; rfl
        rw [h7]
        refine nxt b [k0, t2.1] l5 t2.2 k0 t2.1 rfl h5 ?_
        exact (hr.seq (ks := [k0, t2.1]) ht2).mono (by rw [ht1, he]; omega)
      · exact nxt true l6 l5 m1 k0 u h6 h5 hstay
  refine key K 0 false [t.1, -1] [-1] t.2 t.1 (-1) rfl rfl (by omega) (by omega) ?_
  have e0 : nS (mods.take 0) = 0 := by simp [nS]
  exact ht.mono (by rw [e0]; show nS (List.getD s.Args 0 default).T ≤ _; omega)
theorem addE_sat (hB : HB f1 N) (K : Nat) (hK : 300 < K) (s : ApiStep) (hs : StOk s) (mods : List ApiStep) (hm : ∀ y ∈ mods, StOk y) (hp : MP nAddE mods) (hl : mods.length ≤ 150) (hN : nS mods ≤ N) (m : OCM) (hmo : m.out.length + nS mods ≤ 5000) :
    Sat (cm_addE.b f1 f2 f3 f4 f5 f6 f7 f8 f9 K m s mods) fun r => Res m (nA s.Args + nS mods) r.1.Kids r.2 ∧ Sml r.1 := by
  unfold cm_addE.b
  have hlen := hs.args
  refine Sat.bind (names_sat K hK s.Args (by omega)) fun t1 ht1' => ?_
  have key : ∀ (k j : Nat) (m1 : OCM) (x0 x1 : Int), j ≤ mods.length → mods.length - j < k → Res m (nS (mods.take j)) [x0, x1] m1 →
      Sat (cm_addE.l1 f1 f2 f3 f4 f5 f6 f7 f8 f9 K k 5 t1 [] [] ⟨[], [], []⟩ false [x0, x1] m1.out mods (mods.length : Int) (j : Int)) fun r => Res m (nA s.Args + nS mods) r.1.Kids r.2 ∧ Sml r.1 := by
    intro k
    induction k with
    | zero => intro j m1 x0 x1 h0 h1; omega
    | succ k ih =>
      intro j m1 x0 x1 h0 h1 hr
      have hrl := hr.len
      have htl := nS_take_le mods j
      rw [cm_addE.l1]
      refine Sat.ite (fun h => ?_) (fun _ => Sat.some ⟨hr.mono (by omega), Sml.of (hS := ht1')⟩)
      have hlt : (j : Int) < (mods.length : Int) := by simpa using h
      refine Sat.chk ⟨by omega, hlt⟩ ?_
      rw [Int.toNat_natCast]
      have hmem := getD_mem mods j (by omega)
      have hy := hm _ hmem
      have hn1 := nS_get mods j (by omega)
      have ht1 := nS_take mods j (by omega)
      have htl1 := nS_take_le mods (j + 1)
      have he := nS1_eq (List.getD mods j default)
      have hname : (List.getD mods j default).Name = nTo ∨ (List.getD mods j default).Name = nFrom := hp.addE j (by omega)
      have hfy := hy.fit
      have hl1 : 1 ≤ (List.getD mods j default).Args.length := by
        have := hfy.1
        rcases hname with e | e
        · rw [e] at this; exact this
        · rw [e] at this; exact this
      have hk3 : (List.getD (List.getD mods j default).Args 0 default).Kind = 3 := by
        have := hfy.2
        rcases hname with e | e
        · rw [e] at this; exact this rfl _ (getD_mem _ 0 (by omega))
        · rw [e] at this; exact this rfl _ (getD_mem _ 0 (by omega))
      have hn2 := nA_get (List.getD mods j default).Args 0 (by omega)
      refine Sat.chk ⟨by omega, by omega⟩ ?_
      refine Sat.bind (hB _ (hy.arg 0 (by omega) hk3) (by show nS (List.getD (List.getD mods j default).Args 0 default).T ≤ N; omega) m1 (by show m1.out.length + nS (List.getD (List.getD mods j default).Args 0 default).T ≤ 5000; omega)) fun t2 ht2 => ?_
      refine Sat.ite (fun hto => ?_) (fun hto => ?_)
      · have hto' : (List.getD mods j default).Name = nTo := by simpa using hto
        refine Sat.chk ⟨by omega, by simp⟩ ?_
        have h7 : List.set [x0, x1] (Int.toNat 0) t2.1 = [t2.1, x1] := rfl
        rw [h7]
        unfold cm_addE.j1
        rw [W_in (by omega) (by omega), show (j : Int) + 1 = ((j + 1 : Nat) : Int) by omega]
        exact ih (j + 1) t2.2 t2.1 x1 (by omega) (by omega) ((hr.seq (ks := [t2.1, x1]) ht2).mono (by rw [ht1, he]; omega))
      · have hto' : ¬ (List.getD mods j default).Name = nTo := by simpa using hto
        have hfr : (List.getD mods j default).Name = nFrom := hname.resolve_left hto'
        refine Sat.chk ⟨by omega, by simp⟩ ?_
        have h7 : List.set [x0, x1] (Int.toNat 1) t2.1 = [x0, t2.1] := rfl
        rw [h7]
        unfold cm_addE.j1
        rw [W_in (by omega) (by omega), show (j : Int) + 1 = ((j + 1 : Nat) : Int) by omega]
        exact ih (j + 1) t2.2 x0 t2.1 (by omega) (by omega) ((hr.seq (ks := [x0, t2.1]) ht2).mono (by rw [ht1, he]; omega))
  exact key K 0 m (-1) (-1) (by omega) (by omega) (Res.none m _)
end
end Go.Proofs.Ytbjbgodcenopnaa
namespace Go.Proofs.Ytbjbgodcenopnaa
set_option linter.unusedVariables false
set_option linter.unusedSimpArgs false
set_option maxHeartbeats 2000000
def otherL : List (List UInt8) := [[104, 97, 115], [105, 115], [108, 105, 109, 105, 116], [115, 107, 105, 112], [114, 97, 110, 103, 101], [111, 117, 116, 86], [105, 110, 86], [98, 111, 116, 104, 86], [100, 101, 100, 117, 112], [103, 114, 111, 117, 112], [103, 114, 111, 117, 112, 67, 111, 117, 110, 116], nOrder, nRepeat, nAddE]
def kind0 (n : List UInt8) : Bool := decide (code_simple.f n = some 0) && decide (code_nested.f n = some 0) && (match code_walk.f n with | some r => !r.2 | none => false) && decide (code_reduce.f n = some 0)
theorem other_names (n : List UInt8) (h : n ∈ names57) (h0 : kind0 n = true) (ha : aft n = []) (ho : n ∉ otherL) : need n = 2 := by
  have key : ∀ n ∈ names57, (!kind0 n || !decide (aft n = []) || decide (n ∈ otherL) || decide (need n = 2)) = true := by decide +kernel
  have := key n h
  simpa [h0, ha, ho] using this
theorem nested_sat (n : List UInt8) : Sat (code_nested.f n) fun t => t ≠ 0 → trv n = true := by
  unfold code_nested.f
  have yes : ∀ {c : List UInt8} {v : Int}, decide (n = c) = true → trv c = true → Sat (some v) fun t => t ≠ 0 → trv n = true := fun {c v} h hc => Sat.some fun _ => by
    have e : n = c := by simpa using h
    rw [e]; exact hc
  refine Sat.ite (fun h => yes h rfl) (fun _ => ?_)
  refine Sat.ite (fun h => yes h rfl) (fun _ => ?_)
  refine Sat.ite (fun h => yes h rfl) (fun _ => ?_)
  refine Sat.ite (fun h => yes h rfl) (fun _ => ?_)
  refine Sat.ite (fun h => yes h rfl) (fun _ => ?_)
  refine Sat.ite (fun h => yes h rfl) (fun _ => ?_)
  refine Sat.ite (fun h => yes h rfl) (fun _ => ?_)
  refine Sat.ite (fun h => yes h rfl) (fun _ => ?_)
  refine Sat.ite (fun h => yes h rfl) (fun _ => Sat.some fun h => absurd rfl h)
theorem simple_tot (n : List UInt8) : ∃ t, code_simple.f n = some t := by
  have : Sat (code_simple.f n) fun _ => True := by
    unfold code_simple.f
    repeat (first | exact Sat.some trivial | refine Sat.ite (fun _ => Sat.some trivial) (fun _ => ?_))
  obtain ⟨t, h, _⟩ := this
  exact ⟨t, h⟩
theorem walk_tot (n : List UInt8) : ∃ t, code_walk.f n = some t := by
  unfold code_walk.f
  repeat' split
  all_goals exact ⟨_, rfl⟩
theorem walk_len {n : List UInt8} {t : List Int × Bool} (h : code_walk.f n = some t) : t.1.length ≤ 200 := by
  unfold code_walk.f at h
  repeat' split at h
  all_goals (obtain rfl := Option.some.inj h; simp)
theorem reduce_tot (n : List UInt8) : ∃ t, code_reduce.f n = some t := by
  unfold code_reduce.f
  repeat' split
  all_goals exact ⟨_, rfl⟩
section
variable {N : Nat} (f1 : BF) (f2 : OCM → ApiStep → List ApiStep → Option (ApiIns × OCM)) (f3 : OCM → List ApiArg → Option (List Int × OCM)) (f4 : OCM → ApiStep → List ApiStep → Option (ApiIns × OCM)) (f5 : OCM → List ApiStep → Int → Option (List Int × OCM)) (f6 : OCM → ApiStep → Option (Int × OCM)) (f7 : OCM → List ApiStep → Option (ApiIns × OCM)) (f8 : OCM → ApiStep → List ApiStep → Option (ApiIns × OCM)) (f9 : OCM → ApiStep → List ApiStep → Option (ApiIns × OCM))
def InsP (m : OCM) (s : ApiStep) (mods : List ApiStep) (r : ApiIns × OCM) : Prop := Res m (nA s.Args + nS mods) r.1.Kids r.2 ∧ Sml r.1
theorem other_sat (K : Nat) (hK : 6000 < K) (s : ApiStep) (hs : StOk s) (mods : List ApiStep) (m : OCM)
    (h5 : ∀ n : Nat, n ≤ 200 → Sat (f5 m mods (n : Int)) fun r => Res m (nS mods) r.1 r.2 ∧ r.1.length = n) (h7 : Sat (f7 m mods) fun r => Res m (nS mods) r.1.Kids r.2 ∧ Sml r.1)
    (h8 : s.Name = nRepeat → Sat (f8 m s mods) (InsP m s mods)) (h9 : s.Name = nAddE → Sat (f9 m s mods) (InsP m s mods)) (hd : s.Name ∉ otherL → need s.Name = 2) :
    Sat (cm_other.b f1 f2 f3 f4 f5 f6 f7 f8 f9 K m s mods) (InsP m s mods) := by
  unfold cm_other.b
  have hlen := hs.args
  have hneed := hs.fit.1
  have hwv := hs.wv
  have none : ∀ {x : ApiIns}, Sml x → InsP m s mods (x, m) := fun h => ⟨Res.none m _, h⟩
  have hwp := hs.wp
  have nm1 : ∀ c : List UInt8, decide (s.Name = c) = true → s.Name = c := fun c h => by simpa using h
  refine Sat.ite (fun h => ?_) (fun n1 => ?_)
  · have e := nm1 _ h
    rw [e] at hneed
    have h1 : 1 ≤ s.Args.length := hneed
    refine Sat.ite (fun _ => Sat.bind (names_sat K (by omega) _ (by omega)) fun t ht => Sat.some (none (Sml.of (hS := ht)))) (fun hn => ?_)
    have hne : ¬ (s.Args.length : Int) = 1 := by simpa using hn
    refine Sat.chk ⟨by omega, by omega, by omega⟩ (Sat.bind (names_sat K (by omega) _ (by simp only [List.length_take, List.length_drop]; omega)) fun t ht => ?_)
    refine Sat.chk ⟨by omega, by omega⟩ (Sat.bind (cpred_sat K hK _ (hwv _ (getD_mem _ _ (by show (1 : Nat) < _; omega))) (hwp _ (getD_mem _ _ (by show (1 : Nat) < _; omega)))) fun t3 h3 => Sat.some (none (Sml.of (hS := ht) (hP := h3))))
  refine Sat.ite (fun h => ?_) (fun n2 => ?_)
  · have e := nm1 _ h
    rw [e] at hneed
    have h1 : 1 ≤ s.Args.length := hneed
    exact Sat.chk ⟨by omega, by omega⟩ (Sat.bind (cpred_sat K hK _ (hwv _ (getD_mem _ _ (by show (0 : Nat) < _; omega))) (hwp _ (getD_mem _ _ (by show (0 : Nat) < _; omega)))) fun t3 h3 => Sat.some (none (Sml.of (hP := h3))))
  refine Sat.ite (fun h => ?_) (fun n3 => ?_)
  · have e := nm1 _ h
    rw [e] at hneed
    have h1 : 1 ≤ s.Args.length := hneed
    exact Sat.chk ⟨by omega, by omega⟩ (Sat.some (none Sml.of))
  refine Sat.ite (fun h => ?_) (fun n4 => ?_)
  · have e := nm1 _ h
    rw [e] at hneed
    have h1 : 1 ≤ s.Args.length := hneed
    exact Sat.chk ⟨by omega, by omega⟩ (Sat.some (none Sml.of))
  refine Sat.ite (fun h => Sat.bind (numbers_sat K (by omega) _ (by omega)) fun t ht => Sat.some (none (Sml.of (hN := ht)))) (fun n5 => ?_)
  refine Sat.ite (fun h => Sat.some (none Sml.of)) (fun n6 => ?_)
  refine Sat.ite (fun h => Sat.some (none Sml.of)) (fun n7 => ?_)
  refine Sat.ite (fun h => Sat.some (none Sml.of)) (fun n8 => ?_)
  refine Sat.ite (fun h => Sat.bind (h5 1 (by omega)) fun t ht => Sat.some ⟨ht.1.mono (by omega), Sml.of (hk := by omega)⟩) (fun n9 => ?_)
  refine Sat.ite (fun h => Sat.bind (h5 2 (by omega)) fun t ht => Sat.some ⟨ht.1.mono (by omega), Sml.of (hk := by omega)⟩) (fun n10 => ?_)
  refine Sat.ite (fun h => Sat.bind (h5 1 (by omega)) fun t ht => Sat.some ⟨ht.1.mono (by omega), Sml.of (hk := by omega)⟩) (fun n11 => ?_)
  refine Sat.ite (fun h => Sat.bind h7 fun t ht => Sat.some ⟨ht.1.mono (by omega), ht.2⟩) (fun n12 => ?_)
  refine Sat.ite (fun h => Sat.bind (h8 (nm1 _ h)) fun t ht => Sat.some ht) (fun n13 => ?_)
  refine Sat.ite (fun h => Sat.bind (h9 (nm1 _ h)) fun t ht => Sat.some ht) (fun n14 => ?_)
  have hno : s.Name ∉ otherL := by
    simp only [decide_eq_false_iff_not] at n1 n2 n3 n4 n5 n6 n7 n8 n9 n10 n11 n12 n13 n14
    simp [otherL, n1, n2, n3, n4, n5, n6, n7, n8, n9, n10, n11, n12, n13, n14]
  have h2 := hd hno
  rw [h2] at hneed
  refine Sat.chk (fun _ => ⟨by omega, by omega⟩) ?_
  have last : ∀ (v7 : List ApiArg) (b : Bool), 1 ≤ v7.length → v7.length ≤ 12 → (∀ a ∈ v7, wV a.V ≤ 1600) → Sat (cm_other.j1 f1 f2 f3 f4 f5 f6 f7 f8 f9 K m v7 b) (InsP m s mods) := by
    intro v7 b a1 a2 a3
    unfold cm_other.j1
    refine Sat.chk ⟨by omega, by omega, by omega⟩ (Sat.bind (names_sat K (by omega) _ (by simp only [List.length_take, List.length_drop]; omega)) fun t ht => ?_)
    refine Sat.chk ⟨by omega, by omega, by omega⟩ (Sat.bind (values_sat K hK _ (by simp only [List.length_take, List.length_drop]; omega) fun a ha => a3 a (List.mem_of_mem_drop (List.mem_of_mem_take ha))) fun t3 h3 => Sat.some (none (Sml.of (hS := ht) (hV := h3))))
  refine Sat.ite (fun h3 => ?_) (fun _ => last _ _ (by omega) hlen hwv)
  have h3' : (s.Args.length : Int) = 3 := by simpa using h3
  refine Sat.chk ⟨by omega, by omega, by omega⟩ ?_
  exact last _ _ (by simp only [List.length_take, List.length_drop]; omega) (by simp only [List.length_take, List.length_drop]; omega) fun a ha => hwv a (List.mem_of_mem_drop (List.mem_of_mem_take ha))
theorem ins_sat (K : Nat) (hK : 6000 < K) (s : ApiStep) (hs : StOk s) (ha : aft s.Name = []) (mods : List ApiStep) (m : OCM)
    (h3 : (∀ a ∈ s.Args, Tr a.T) → Sat (f3 m s.Args) fun r => Res m (nA s.Args) r.1 r.2 ∧ r.1.length ≤ 200) (h4 : (s.Name ∉ otherL → need s.Name = 2) → Sat (f4 m s mods) (InsP m s mods)) :
    Sat (cm_ins.b f1 f2 f3 f4 f5 f6 f7 f8 f9 K m s mods) (InsP m s mods) := by
  unfold cm_ins.b
  have hlen := hs.args
  have hwv := hs.wv
  have none : ∀ {x : ApiIns}, Sml x → InsP m s mods (x, m) := fun h => ⟨Res.none m _, h⟩
  have hwp := hs.wp
  obtain ⟨t1, e1⟩ := simple_tot s.Name
  refine Sat.bindE e1 ?_
  refine Sat.ite (fun _ => ?_) (fun z1 => ?_)
  · have j3 : ∀ (y : ApiIns) (b : Bool), Sml y → Sat (cm_ins.j3 f1 f2 f3 f4 f5 f6 f7 f8 f9 K m s y b) (InsP m s mods) := by
      intro y b hy
      unfold cm_ins.j3 cm_ins.j1
      exact Sat.ite (fun _ => Sat.bind (values_sat K hK _ (by omega) hwv) fun t ht => Sat.some (none ⟨hy.1, hy.2.1, hy.2.2.1, ht.1, ht.2, hy.2.2.2.2.2⟩)) (fun _ => Sat.bind (names_sat K (by omega) _ (by omega)) fun t ht => Sat.some (none ⟨hy.1, ht, hy.2.2.1, hy.2.2.2.1, hy.2.2.2.2.1, hy.2.2.2.2.2⟩))
    have j2 : ∀ (b : Bool), Sat (cm_ins.j2 f1 f2 f3 f4 f5 f6 f7 f8 f9 K m ⟨t1, [], [], [], ⟨[], [], []⟩, [], false⟩ s t1 b) (InsP m s mods) := by
      intro b
      unfold cm_ins.j2
      refine Sat.ite (fun _ => ?_) (fun _ => Sat.ite (fun _ => j3 _ _ Sml.of) (fun _ => Sat.ite (fun _ => j3 _ _ Sml.of) (fun _ => Sat.ite (fun _ => j3 _ _ Sml.of) (fun _ => j3 _ _ Sml.of))))
      unfold cm_ins.j1
      exact Sat.bind (numbers_sat K (by omega) _ (by omega)) fun t ht => Sat.some (none (Sml.of (hN := ht)))
    exact Sat.ite (fun _ => j2 _) (fun _ => Sat.ite (fun _ => j2 _) (fun _ => Sat.ite (fun _ => j2 _) (fun _ => j2 _)))
  obtain ⟨t5, e5, p5⟩ := nested_sat s.Name
  refine Sat.bindE e5 ?_
  refine Sat.ite (fun z5 => ?_) (fun z5 => ?_)
  · have hne : t5 ≠ 0 := by simpa using z5
    have hk3 := hs.fit.2 (p5 hne)
    have hT : ∀ a ∈ s.Args, Tr a.T := getD_all fun i hi => hs.arg i hi (hk3 _ (getD_mem _ i hi))
    refine Sat.bind (h3 hT) fun t6 ht6 => Sat.some ⟨ht6.1.mono (by omega), Sml.of (hk := ht6.2)⟩
  obtain ⟨t7, e7⟩ := walk_tot s.Name
  refine Sat.bindE e7 ?_
  refine Sat.ite (fun _ => Sat.bind (names_sat K (by omega) _ (by omega)) fun t ht => Sat.some (none (Sml.of (hS := ht) (hN := walk_len e7)))) (fun z7 => ?_)
  obtain ⟨t9, e9⟩ := reduce_tot s.Name
  refine Sat.bindE e9 ?_
  refine Sat.ite (fun _ => Sat.some (none Sml.of)) (fun z9 => ?_)
  refine Sat.bind (h4 fun hno => ?_) fun t10 ht => Sat.some ht
  refine other_names _ hs.c.split.1.1 ?_ ha hno
  have x1 : t1 = 0 := by simpa using z1
  have x5 : t5 = 0 := by simpa using z5
  have x9 : t9 = 0 := by simpa using z9
  unfold kind0
  rw [e1, e5, e7, e9, x1, x5, x9]
  simp [z7]
def heads (l : List ApiStep) : Nat := (l.filter fun s => decide (aft s.Name = [])).length
theorem heads_append (a b : List ApiStep) : heads (a ++ b) = heads a + heads b := by simp [heads]
theorem set_at {α : Type} : ∀ (A : List α) (x y : α) (B : List α), (A ++ x :: B).set A.length y = A ++ y :: B
  | [], x, y, B => rfl
  | a :: A, x, y, B => by simp [set_at A x y B]
theorem take_split (l : List ApiStep) (i n : Nat) (hi : i < l.length) (hn : 1 ≤ n) : l.take (i + n) = l.take i ++ (List.getD l i default :: (l.drop (i + 1)).take (n - 1)) := by
  obtain ⟨n, rfl⟩ : ∃ q, n = q + 1 := ⟨n - 1, by omega⟩
  rw [List.take_add, List.drop_eq_getElem_cons hi, List.take_succ_cons, List.getD_eq_getElem?_getD, List.getElem?_eq_getElem hi]
  rfl
theorem nm_mods (l : List ApiStep) (i n j : Nat) (hj : j < n) : nm ((l.drop i).take n) j = nm l (i + j) := by
  unfold nm
  rw [List.getD_eq_getElem?_getD, List.getElem?_take, if_pos hj, List.getElem?_drop, ← List.getD_eq_getElem?_getD]
theorem rn_one (l : List ApiStep) (n : List UInt8) (p : Nat) (hp : nm l p = n) : ∀ e, p ≤ e → (∀ x, p < x → x ≤ e → aft (nm l x) ≠ []) → 1 ≤ rn l n e := by
  intro e
  induction e with
  | zero =>
    intro h _
    have : p = 0 := by omega
    subst this
    rw [rn, if_pos hp]; omega
  | succ e ih =>
    intro h hx
    rw [rn]
    by_cases e1 : p = e + 1
    · subst e1; rw [if_pos hp]; omega
    · rw [if_neg (hx (e + 1) (by omega) (by omega))]
      have := ih (by omega) fun x h1 h2 => hx x h1 (by omega)
      omega
theorem rn_two (l : List ApiStep) (n : List UInt8) (p e : Nat) (hp : nm l p = n) (he : nm l e = n) (hpe : p < e) (hx : ∀ x, p < x → x ≤ e → aft (nm l x) ≠ []) : 2 ≤ rn l n e := by
  obtain ⟨e, rfl⟩ : ∃ q, e = q + 1 := ⟨e - 1, by omega⟩
  rw [rn, if_pos he, if_neg (hx (e + 1) (by omega) (by omega))]
  have := rn_one l n p hp e (by omega) fun x h1 h2 => hx x h1 (by omega)
  omega
def BodyP (m : OCM) (l : List ApiStep) (r : Int × OCM) : Prop := ∃ ins rest, r = ((m.out.length : Int), (⟨m.out ++ ins :: rest⟩ : OCM)) ∧ Own m.out.length [(m.out.length : Int)] (ins :: rest) ∧ (ins :: rest).length ≤ nS l ∧ ins.length = heads l
theorem BodyP.res {m : OCM} {l : List ApiStep} {r : Int × OCM} (h : BodyP m l r) : Res m (nS l) [r.1] r.2 := by
  obtain ⟨ins, rest, rfl, h1, h2, h3⟩ := h
  exact ⟨ins :: rest, rfl, h1, h2⟩
theorem body_sat (K : Nat) (hK : 600 < K) (l : List ApiStep) (hl : Tr l) (m : OCM) (hm : m.out.length + nS l ≤ 5000)
    (hI : ∀ (s : ApiStep) (mods : List ApiStep) (m' : OCM), StOk s → aft s.Name = [] → (∀ y ∈ mods, StOk y) → MP s.Name mods → mods.length ≤ 150 → nA s.Args + nS mods + 1 ≤ nS l → m'.out.length + nA s.Args + nS mods ≤ 5000 → Sat (f2 m' s mods) (InsP m' s mods)) :
    Sat (cm_body.b f1 f2 f3 f4 f5 f6 f7 f8 f9 K m l) (BodyP m l) := by
  obtain ⟨hne, hg, hlen, hpl, hcs⟩ := hl
  have hpos := nS_pos l hne
  have hst : ∀ i, i < l.length → StOk (List.getD l i default) := fun i hi => ⟨GS_get l i hg hi, CS_get l i hcs hi⟩
  have hl0 : 0 < l.length := List.length_pos_iff.2 hne
  have hhd0 : aft (nm l 0) = [] := Classical.not_not.1 fun h => by have := (hpl 0 hl0 h).1; omega
  unfold cm_body.b
  refine Sat.chk (by simp only [List.length_cons, List.length_nil]; omega) ?_
  have key : ∀ (k i : Nat) (l4 : List ApiIns) (m1 : OCM) (B : Nat), i ≤ l.length → l.length - i < k → (i < l.length → aft (nm l i) = []) → Res ⟨m.out ++ [[]]⟩ B (kidsB l4) m1 → B + l4.length ≤ nS (l.take i) → l4.length = heads (l.take i) → (∀ x ∈ l4, Sml x) →
      Sat (cm_body.l1 f1 f2 f3 f4 f5 f6 f7 f8 f9 K k l4 m1.out l (m.out.length : Int) (i : Int)) (BodyP m l) := by
    intro k
    induction k with
    | zero => intro i l4 m1 B h0 h1; omega
    | succ k ih =>
      intro i l4 m1 B h0 h1 hhd hr hB hh hsm
      rw [cm_body.l1]
      have htl := nS_take_le l i
      refine Sat.ite (fun h => ?_) (fun h => ?_)
      · have hlt : (i : Int) < (l.length : Int) := by simpa using h
        have hi : i < l.length := by omega
        have key2 : ∀ (k2 n : Nat), 1 ≤ n → i + n ≤ l.length → l.length - (i + n) < k2 → (∀ x, i < x → x < i + n → aft (nm l x) ≠ []) →
            Sat (cm_body.l2 f1 f2 f3 f4 f5 f6 f7 f8 f9 (cm_body.l1 f1 f2 f3 f4 f5 f6 f7 f8 f9 K k) K m1.out l4 k2 l (m.out.length : Int) (i : Int) (n : Int)) (BodyP m l) := by
          intro k2
          induction k2 with
          | zero => intro n a1 a2 a3; omega
          | succ k2 ih2 =>
            intro n a1 a2 a3 a4
            rw [cm_body.l2]
            have w1 : IntKind.wrap .i64 ((i : Int) + (n : Int)) = ((i + n : Nat) : Int) := by rw [W_in (by omega) (by omega)]; omega
            rw [w1]
            refine Sat.chk (fun hh => by simp only [decide_eq_true_eq] at hh; omega) ?_
            rw [Int.toNat_natCast]
            have modE : code_modifies.f (List.getD l (i + n) default).Name = some (decide (aft (nm l (i + n)) ≠ [])) := by
              show code_modifies.f (nm l (i + n)) = _
              generalize nm l (i + n) = c
              unfold code_modifies.f code_modifies.j1 aft
              by_cases h1 : c = nBy
              · simp [h1]
              by_cases h2 : c = nTimes
              · simp [h2]
              by_cases h3 : c = nUntil
              · simp [h3]
              by_cases h4 : c = nEmit
              · simp [h4]
              by_cases h5 : c = nTo
              · simp [h5]
              by_cases h6 : c = nFrom
              · simp [h6]
              simp [h1, h2, h3, h4, h5, h6]
            have go : (i + n < l.length → aft (nm l (i + n)) = []) → Sat (if ((0 : Int) ≤ (i : Int) ∧ (i : Int) < (List.length l : Int)) then (if ((0 : Int) ≤ (IntKind.wrap .i64 ((i : Int) + 1)) ∧ ((IntKind.wrap .i64 ((i : Int) + 1)) : Int) ≤ ((i + n : Nat) : Int) ∧ ((i + n : Nat) : Int) ≤ (List.length l : Int)) then (Option.bind (f2 (⟨m1.out⟩ : OCM) (List.getD l (Int.toNat (i : Int)) default) (List.take (i + n - Int.toNat (IntKind.wrap .i64 ((i : Int) + 1))) (List.drop (Int.toNat (IntKind.wrap .i64 ((i : Int) + 1))) l))) fun t2 => (if ((List.length l4 + List.length ([t2.1] : List ApiIns)) * 176 ≤ 140737488355328 ∧ List.length l4 + List.length ([t2.1] : List ApiIns) ≤ 140737488355328) then cm_body.l1 f1 f2 f3 f4 f5 f6 f7 f8 f9 K k (l4 ++ ([t2.1] : List ApiIns)) t2.2.out l (m.out.length : Int) ((i + n : Nat) : Int) else none)) else none) else none) (BodyP m l) := by
              intro hend
              have w2 : IntKind.wrap .i64 ((i : Int) + 1) = ((i + 1 : Nat) : Int) := by rw [W_in (by omega) (by omega)]; omega
              rw [w2]
              refine Sat.chk ⟨by omega, hlt⟩ (Sat.chk ⟨by omega, by omega, by omega⟩ ?_)
              rw [Int.toNat_natCast, Int.toNat_natCast]
              have hsp := take_split l i n hi a1
              have e0 : i + n - (i + 1) = n - 1 := by omega
              rw [e0]
              generalize hmods : (l.drop (i + 1)).take (n - 1) = mods at hsp ⊢
              have hml : mods.length = n - 1 := by rw [← hmods, List.length_take, List.length_drop]; omega
              have hnm : ∀ j, j < n - 1 → nm mods j = nm l (i + 1 + j) := fun j hj => by rw [← hmods]; exact nm_mods l (i + 1) (n - 1) j hj
              have hmem : ∀ y ∈ mods, StOk y := by
                refine getD_all fun j hj => ?_
                have hs := hst (i + 1 + j) (by omega)
                rw [← hmods, List.getD_eq_getElem?_getD, List.getElem?_take, if_pos (by omega), List.getElem?_drop, ← List.getD_eq_getElem?_getD]
                exact hs
              have hnS : nS (l.take (i + n)) = nS (l.take i) + (nS1 (List.getD l i default) + nS mods) := by rw [hsp, nS_append, nS]
              have hnS2 := nS_take_le l (i + n)
              have he := nS1_eq (List.getD l i default)
              have hrl := hr.len
              simp only [List.length_append, List.length_cons, List.length_nil] at hrl
              have hmp : MP (List.getD l i default).Name mods := by
                refine ⟨fun j hj => ?_, fun q j hq hj hby => ?_⟩
                · have hx := a4 (i + 1 + j) (by omega) (by omega)
                  have hp := (hpl (i + 1 + j) (by omega) hx).2.1
                  rw [hnm j (by omega)]
                  by_cases j0 : j = 0
                  · subst j0
                    rw [if_pos rfl]
                    exact hp
                  · rw [if_neg j0, hnm (j - 1) (by omega)]
                    rw [show i + 1 + j - 1 = i + 1 + (j - 1) by omega] at hp
                    exact hp
                · rw [hnm q (by omega), hnm j (by omega)]
                  rw [hnm j (by omega)] at hby
                  intro heq
                  have hx := a4 (i + 1 + j) (by omega) (by omega)
                  have h1 := (hpl (i + 1 + j) (by omega) hx).2.2 hby
                  have h2 := rn_two l (nm l (i + 1 + j)) (i + 1 + q) (i + 1 + j) heq rfl (by omega) fun x b1 b2 => a4 x (by omega) (by omega)
                  omega
              refine Sat.bind (hI _ mods m1 (hst i hi) (hhd hi) hmem hmp (by omega) (by omega) (by omega)) fun t2 ht2 => ?_
              refine Sat.chk (by simp only [List.length_cons, List.length_nil]; omega) ?_
              have hr2 := hr.seq (ks := kidsB (l4 ++ [t2.1])) ht2.1
              refine ih (i + n) (l4 ++ [t2.1]) t2.2 _ (by omega) (by omega) hend hr2 (by simp only [List.length_append, List.length_cons, List.length_nil]; omega) ?_ ?_
              rotate_right
              · intro x hx
                rcases List.mem_append.1 hx with hx | hx
                · exact hsm x hx
                · simp only [List.mem_cons, List.not_mem_nil, or_false] at hx
                  rw [hx]; exact ht2.2
              rw [hsp, heads_append]
              have hz : heads (List.getD l i default :: mods) = 1 := by
                unfold heads
                have h1 : aft (List.getD l i default).Name = [] := hhd hi
                have h2 : mods.filter (fun s => decide (aft s.Name = [])) = [] := by
                  rw [List.filter_eq_nil_iff]
                  refine getD_all (p := fun (a : ApiStep) => ¬ decide (aft a.Name = []) = true) fun j hj => ?_
                  have hx := a4 (i + 1 + j) (by omega) (by omega)
                  rw [← hnm j (by omega)] at hx
                  simpa [nm] using hx
                rw [List.filter_cons, if_pos (by simpa using h1), h2]
                rfl
              rw [hz]
              simp only [List.length_append, List.length_cons, List.length_nil]
              omega
            by_cases hc : i + n < l.length
            · have hc' : decide (((i + n : Nat) : Int) < (l.length : Int)) = true := decide_eq_true (by omega)
              rw [hc', if_pos rfl, modE]
              refine Sat.bindE rfl ?_
              by_cases ha : aft (nm l (i + n)) = []
              · rw [if_neg (by simp [ha])]
                exact go fun _ => ha
              · rw [if_pos (by simp [ha]), W_in (by omega) (by omega), show (n : Int) + 1 = ((n + 1 : Nat) : Int) by omega]
                refine ih2 (n + 1) (by omega) (by omega) (by omega) fun x b1 b2 => ?_
                by_cases e : x = i + n
                · rw [e]; exact ha
                · exact a4 x b1 (by omega)
            · have hc' : decide (((i + n : Nat) : Int) < (l.length : Int)) = false := by
                rw [decide_eq_false_iff_not]; omega
              rw [hc', if_neg (by simp)]
              refine Sat.bindE rfl ?_
              rw [Bool.false_and, if_neg (by simp)]
              exact go fun h => absurd h hc
        exact key2 K 1 (by omega) (by omega) (by omega) fun x b1 b2 => by omega
      · have hge : ¬ (i : Int) < (l.length : Int) := by simpa using h
        have hie : i = l.length := by omega
        subst hie
        rw [List.take_length] at hB hh
        obtain ⟨rest, r1, r2, r3⟩ := hr
        have e1 : m1.out = m.out ++ [] :: rest := by rw [r1]; simp
        rw [e1]
        refine Sat.chk ⟨by omega, by simp only [List.length_append, List.length_cons]; omega⟩ (Sat.some ?_)
        rw [Int.toNat_natCast, set_at]
        have hh1 : 1 ≤ heads l := by
          obtain ⟨x, r, rfl⟩ : ∃ x r, l = x :: r := by
            cases l with
            | nil => exact absurd rfl hne
            | cons x r => exact ⟨x, r, rfl⟩
          unfold heads
          have h1 : aft x.Name = [] := hhd0
          rw [List.filter_cons, if_pos (by simpa using h1)]
          simp
        have hle : heads l ≤ l.length := List.length_filter_le _ _
        exact ⟨l4, rest, rfl, Own.body r2 ⟨by omega, hsm⟩, by simp only [List.length_cons]; omega, hh⟩
  have := key K 0 [] ⟨m.out ++ [[]]⟩ 0 (by omega) (by omega) (fun _ => hhd0) (Res.none _ _) (by simp) (by simp [heads]) (fun x hx => by cases hx)
  exact this
end
theorem knot : ∀ (N K : Nat), 10 * N + 7000 ≤ K → ∀ T, Tr T → nS T ≤ N → ∀ m : OCM, m.out.length + nS T ≤ 5000 → Sat (cm_body.f K m T) (BodyP m T) := by
  intro N
  induction N with
  | zero => intro K hK T hT hn; have := nS_pos T hT.1; omega
  | succ N ih =>
    intro K hK T hT hn m hm
    have hB : ∀ K', 10 * N + 7000 ≤ K' → HB (cm_body.f K') N := fun K' hK' U hU hn' m' hm' => (ih K' hK' U hU hn' m' hm').mono fun r hr => hr.res
    obtain ⟨K, rfl⟩ : ∃ q, K = q + 1 + 1 + 1 + 1 + 1 + 1 := ⟨K - 6, by omega⟩
    have hBy : ∀ K', 10 * N + 7001 ≤ K' → ∀ y, StOk y → nA y.Args ≤ N → ∀ m : OCM, m.out.length + nS1 y ≤ 5000 → Sat (cm_by.f K' m y) fun r => Res m (nS1 y) [r.1] r.2 := by
      intro K' hK' y hy hny m' hm'
      obtain ⟨K', rfl⟩ : ∃ q, K' = q + 1 := ⟨K' - 1, by omega⟩
      rw [cm_by.f]
      exact by_sat _ _ _ _ _ _ _ _ _ (hB K' (by omega)) K' (by omega) y hy hny m' hm'
    have hBys : ∀ K', 10 * N + 7002 ≤ K' → ∀ mods : List ApiStep, (∀ y ∈ mods, StOk y) → nS mods ≤ N → ∀ m : OCM, m.out.length + nS mods ≤ 5000 → ∀ n : Nat, n ≤ 200 → Sat (cm_bys.f K' m mods (n : Int)) fun r => Res m (nS mods) r.1 r.2 ∧ r.1.length = n := by
      intro K' hK' mods hms hns m' hm' n hn'
      obtain ⟨K', rfl⟩ : ∃ q, K' = q + 1 := ⟨K' - 1, by omega⟩
      rw [cm_bys.f]
      exact bys_sat _ _ _ _ _ _ _ _ _ (hB K' (by omega)) 7000 (by omega) (fun _ _ => .inr trivial) (hBy K' (by omega)) K' (by omega) mods hms hns n hn' m' hm'
    rw [cm_body.f]
    refine body_sat _ _ _ _ _ _ _ _ _ _ (by omega) T hT m hm fun s mods m' hs ha hms hmp hml hN hm' => ?_
    rw [cm_ins.f]
    refine ins_sat _ _ _ _ _ _ _ _ _ _ (by omega) s hs ha mods m' (fun hA => ?_) (fun hd => ?_)
    · rw [cm_kids.f]
      exact kids_sat _ _ _ _ _ _ _ _ _ (hB _ (by omega)) _ (by omega) s.Args hA (by omega) hs.args m' (by omega)
    · rw [cm_other.f]
      refine other_sat _ _ _ _ _ _ _ _ _ _ (by omega) s hs mods m' (fun n hn' => hBys _ (by omega) mods hms (by omega) m' (by omega) n hn') ?_ (fun hr => ?_) (fun hr => ?_) hd
      · rw [cm_order.f]
        exact order_sat _ _ _ _ _ _ _ _ _ _ (by omega) mods (fun y hy => (hms y hy).args) hml m' fun n hn' => hBys _ (by omega) mods hms (by omega) m' (by omega) n hn'
      · rw [cm_repeat.f]
        exact repeat_sat _ _ _ _ _ _ _ _ _ (hB _ (by omega)) _ (by omega) s hs hr mods hms (by rw [← hr]; exact hmp) hml (by omega) m' (by omega)
      · rw [cm_addE.f]
        exact addE_sat _ _ _ _ _ _ _ _ _ (hB _ (by omega)) _ (by omega) s hs mods hms (by rw [← hr]; exact hmp) hml (by omega) m' (by omega)
theorem compile_sat (l : List ApiStep) (hp : Prs l) (K : Nat) (hK : 20000 ≤ K) : Sat (code_Compile.f K l) fun r => (r.2 ≠ 0 → r.1.Bodies = []) ∧ (r.2 = 0 → ∃ ins rest, r.1.Bodies = ins :: rest ∧ Own 0 [0] (ins :: rest) ∧ (ins :: rest).length ≤ 500 ∧ ins.length = heads l) := by
  unfold code_Compile.f
  refine Sat.bind (Check_sat l K hp (by omega)) fun t1 ht1 => ?_
  refine Sat.ite (fun hn => Sat.some ⟨fun _ => rfl, fun hz => ?_⟩) (fun hz => ?_)
  · have : ¬ t1 = 0 := by simpa using hn
    exact absurd hz this
  · obtain ⟨h1, h2⟩ := ht1 (by simpa using hz)
    obtain ⟨p1, p2, p3, p4⟩ := hp
    refine Sat.bind (knot (nS l) K (by omega) l ⟨p1, p3, p2, h1, h2⟩ (Nat.le_refl _) ⟨[]⟩ (by simp; omega)) fun t2 ht2 => Sat.some ⟨fun h => absurd rfl h, fun _ => ?_⟩
    obtain ⟨ins, rest, e, o, b1, b2⟩ := ht2
    refine ⟨ins, rest, by rw [e]; simp, o, by omega, b2⟩
end Go.Proofs.Ytbjbgodcenopnaa
namespace Go.Proofs.Ytbjbgodcenopnaa
set_option linter.unusedVariables false
set_option linter.unusedSimpArgs false
set_option maxHeartbeats 1000000
theorem same_v : ∀ (n : Nat) (v : ApiValue) (K : Nat), wV v ≤ n → n ≤ 3000 → n + 4000 ≤ K → r02_Same.f K v v = some true := by
  intro n
  induction n with
  | zero => intro v K h; have := wV_eq v; omega
  | succ n ih =>
    intro v K h hn hK
    obtain ⟨K, rfl⟩ : ∃ q, K = q + 1 := ⟨K - 1, by omega⟩
    have hv := wV_eq v
    have hl := wL_len v.L
    rw [r02_Same.f, r02_Same.b, refcanon_eq, if_pos (by simp), Option.bind_some, Option.bind_some, if_neg (by simp)]
    have key : ∀ (k i : Nat), i ≤ v.L.length → v.L.length - i < k → r02_Same.l1 (r02_Same.f K) K k v v (i : Int) = some true := by
      intro k
      induction k with
      | zero => intro i h0 h1; omega
      | succ k ihk =>
        intro i h0 h1
        rw [r02_Same.l1]
        by_cases hi : i < v.L.length
        · have hw := wL_get v.L i hi
          rw [if_pos (decide_eq_true (by omega)), if_pos ⟨by omega, by omega⟩, if_pos ⟨by omega, by omega⟩, Int.toNat_natCast, ih _ K (by omega) (by omega) (by omega), Option.bind_some, if_neg (by simp), W_in (by omega) (by omega), show (i : Int) + 1 = ((i + 1 : Nat) : Int) by omega]
          exact ihk (i + 1) (by omega) (by omega)
        · rw [if_neg (by rw [decide_eq_true_eq]; omega)]
    exact key K 0 (by omega) (by omega)
theorem wPs_len : ∀ l : List ApiPred, l.length ≤ wPs l
  | [] => by simp [wPs]
  | x :: r => by
    have := wPs_len r
    have := wP_pos x
    simp only [wPs, List.length_cons]; omega
theorem wPs_get : ∀ (l : List ApiPred) (i : Nat), i < l.length → wP (List.getD l i default) ≤ wPs l
  | [], i, h => by simp at h
  | x :: r, 0, _ => by simp only [wPs, List.getD_cons_zero]; omega
  | x :: r, i + 1, h => by have := wPs_get r i (by simpa using h); simp only [wPs, List.getD_cons_succ]; omega
theorem wP_eq (p : ApiPred) : wP p = 1 + wL p.L + wPs p.Kids := by cases p; rw [wP]
theorem same_p : ∀ (n : Nat) (v : ApiPred) (K : Nat), wP v ≤ n → n ≤ 3000 → n + 8000 ≤ K → r12_SamePred.f K v v = some true := by
  intro n
  induction n with
  | zero => intro v K h; have := wP_pos v; omega
  | succ n ih =>
    intro v K h hn hK
    obtain ⟨K, rfl⟩ : ∃ q, K = q + 1 := ⟨K - 1, by omega⟩
    have hv := wP_eq v
    have hl := wL_len v.L
    have hl2 := wPs_len v.Kids
    rw [r12_SamePred.f, r12_SamePred.b, if_neg (by simp)]
    have key2 : ∀ (s : ApiPred → ApiPred → Int → Option Bool) (k i : Nat), i ≤ v.Kids.length → v.Kids.length - i < k → r12_SamePred.l2 (r12_SamePred.f K) s K v v k (i : Int) = some true := by
      intro s k
      induction k with
      | zero => intro i h0 h1; omega
      | succ k ihk =>
        intro i h0 h1
        rw [r12_SamePred.l2]
        by_cases hi : i < v.Kids.length
        · have hw := wPs_get v.Kids i hi
          rw [if_pos (decide_eq_true (by omega)), if_pos ⟨by omega, by omega⟩, if_pos ⟨by omega, by omega⟩, Int.toNat_natCast, ih _ K (by omega) (by omega) (by omega), Option.bind_some, if_neg (by simp), W_in (by omega) (by omega), show (i : Int) + 1 = ((i + 1 : Nat) : Int) by omega]
          exact ihk (i + 1) (by omega) (by omega)
        · rw [if_neg (by rw [decide_eq_true_eq]; omega)]
    have key : ∀ (k i : Nat), i ≤ v.L.length → v.L.length - i < k → r12_SamePred.l1 (r12_SamePred.f K) K k v v (i : Int) = some true := by
      intro k
      induction k with
      | zero => intro i h0 h1; omega
      | succ k ihk =>
        intro i h0 h1
        rw [r12_SamePred.l1]
        by_cases hi : i < v.L.length
        · have hw := wL_get v.L i hi
          rw [if_pos (decide_eq_true (by omega)), if_pos ⟨by omega, by omega⟩, if_pos ⟨by omega, by omega⟩, Int.toNat_natCast, same_v 3000 _ K (by omega) (by omega) (by omega), Option.bind_some, if_neg (by simp), W_in (by omega) (by omega), show (i : Int) + 1 = ((i + 1 : Nat) : Int) by omega]
          exact ihk (i + 1) (by omega) (by omega)
        · rw [if_neg (by rw [decide_eq_true_eq]; omega)]
          exact key2 _ K 0 (by omega) (by omega)
    exact key K 0 (by omega) (by omega)
theorem same_ins (K : Nat) (hK : 20000 ≤ K) (v : ApiIns) (h : Sml v) : offshootref15_sameIns.f K v v = some true := by
  obtain ⟨h1, h2, h3, h4, h5, h6⟩ := h
  unfold offshootref15_sameIns.f
  rw [if_pos (by simp), same_p 1700 _ K h6 (by omega) (by omega), Option.bind_some, if_neg (by simp)]
  have k4 : ∀ (a : ApiIns → ApiIns → Int → Option Bool) (b c : Int → Option Bool) (k i : Nat), i ≤ v.Kids.length → v.Kids.length - i < k → offshootref15_sameIns.l4 a b c K v v k (i : Int) = some true := by
    intro a b c k
    induction k with
    | zero => intro i h0 h1; omega
    | succ k ihk =>
      intro i h0 h1
      rw [offshootref15_sameIns.l4]
      by_cases hi : i < v.Kids.length
      · rw [if_pos (decide_eq_true (by omega)), if_pos ⟨by omega, by omega⟩, if_pos ⟨by omega, by omega⟩, if_neg (by simp), W_in (by omega) (by omega), show (i : Int) + 1 = ((i + 1 : Nat) : Int) by omega]
        exact ihk (i + 1) (by omega) (by omega)
      · rw [if_neg (by rw [decide_eq_true_eq]; omega)]
  have k3 : ∀ (a : ApiIns → ApiIns → Int → Option Bool) (b : Int → Option Bool) (k i : Nat), i ≤ v.V.length → v.V.length - i < k → offshootref15_sameIns.l3 a b K v v k (i : Int) = some true := by
    intro a b k
    induction k with
    | zero => intro i h0 h1; omega
    | succ k ihk =>
      intro i h0 h1
      rw [offshootref15_sameIns.l3]
      by_cases hi : i < v.V.length
      · rw [if_pos (decide_eq_true (by omega)), if_pos ⟨by omega, by omega⟩, if_pos ⟨by omega, by omega⟩, Int.toNat_natCast, same_v 1600 _ K (h5 _ (getD_mem _ _ hi)) (by omega) (by omega), Option.bind_some, if_neg (by simp), W_in (by omega) (by omega), show (i : Int) + 1 = ((i + 1 : Nat) : Int) by omega]
        exact ihk (i + 1) (by omega) (by omega)
      · rw [if_neg (by rw [decide_eq_true_eq]; omega)]
        exact k4 _ _ _ K 0 (by omega) (by omega)
  have k2 : ∀ (a : ApiIns → ApiIns → Int → Option Bool) (k i : Nat), i ≤ v.N.length → v.N.length - i < k → offshootref15_sameIns.l2 a K v v k (i : Int) = some true := by
    intro a k
    induction k with
    | zero => intro i h0 h1; omega
    | succ k ihk =>
      intro i h0 h1
      rw [offshootref15_sameIns.l2]
      by_cases hi : i < v.N.length
      · rw [if_pos (decide_eq_true (by omega)), if_pos ⟨by omega, by omega⟩, if_pos ⟨by omega, by omega⟩, if_neg (by simp), W_in (by omega) (by omega), show (i : Int) + 1 = ((i + 1 : Nat) : Int) by omega]
        exact ihk (i + 1) (by omega) (by omega)
      · rw [if_neg (by rw [decide_eq_true_eq]; omega)]
        exact k3 _ _ K 0 (by omega) (by omega)
  have k1 : ∀ (k i : Nat), i ≤ v.S.length → v.S.length - i < k → offshootref15_sameIns.l1 K k v v (i : Int) = some true := by
    intro k
    induction k with
    | zero => intro i h0 h1; omega
    | succ k ihk =>
      intro i h0 h1
      rw [offshootref15_sameIns.l1]
      by_cases hi : i < v.S.length
      · rw [if_pos (decide_eq_true (by omega)), if_pos ⟨by omega, by omega⟩, if_pos ⟨by omega, by omega⟩, if_neg (by simp), W_in (by omega) (by omega), show (i : Int) + 1 = ((i + 1 : Nat) : Int) by omega]
        exact ihk (i + 1) (by omega) (by omega)
      · rw [if_neg (by rw [decide_eq_true_eq]; omega)]
        exact k2 _ K 0 (by omega) (by omega)
  exact k1 K 0 (by omega) (by omega)
theorem same_prog (K : Nat) (hK : 20000 ≤ K) (p : ApiProg) (hl : p.Bodies.length ≤ 500) (hs : ∀ b ∈ p.Bodies, b.length ≤ 150 ∧ ∀ x ∈ b, Sml x) : offshootref15_Same.f K p p = some true := by
  unfold offshootref15_Same.f
  rw [if_neg (by simp)]
  have key : ∀ (k i : Nat), i ≤ p.Bodies.length → p.Bodies.length - i < k → offshootref15_Same.l1 K k p p (i : Int) = some true := by
    intro k
    induction k with
    | zero => intro i h0 h1; omega
    | succ k ihk =>
      intro i h0 h1
      rw [offshootref15_Same.l1]
      by_cases hi : i < p.Bodies.length
      · rw [if_pos (decide_eq_true (by omega)), if_pos ⟨by omega, by omega⟩, if_pos ⟨by omega, by omega⟩, Int.toNat_natCast, if_neg (by simp)]
        have hb := hs _ (getD_mem _ _ hi)
        have key2 : ∀ (k2 j : Nat), j ≤ (p.Bodies.getD i default).length → (p.Bodies.getD i default).length - j < k2 → offshootref15_Same.l2 (offshootref15_Same.l1 K k) K p p k2 (i : Int) (j : Int) = some true := by
          intro k2
          induction k2 with
          | zero => intro j a0 a1; omega
          | succ k2 ihk2 =>
            intro j a0 a1
            rw [offshootref15_Same.l2, if_pos ⟨by omega, by omega⟩, Int.toNat_natCast]
            by_cases hj : j < (p.Bodies.getD i default).length
            · rw [if_pos (decide_eq_true (by omega)), if_pos ⟨by omega, by omega⟩, if_pos ⟨by omega, by omega⟩, if_pos ⟨by omega, by omega⟩, if_pos ⟨by omega, by omega⟩, Int.toNat_natCast, same_ins K hK _ (hb.2 _ (getD_mem _ _ hj)), Option.bind_some, if_neg (by simp), W_in (by omega) (by omega), show (j : Int) + 1 = ((j + 1 : Nat) : Int) by omega]
              exact ihk2 (j + 1) (by omega) (by omega)
            · rw [if_neg (by rw [decide_eq_true_eq]; omega), W_in (by omega) (by omega), show (i : Int) + 1 = ((i + 1 : Nat) : Int) by omega]
              exact ihk (i + 1) (by omega) (by omega)
        exact key2 K 0 (by omega) (by omega)
      · rw [if_neg (by rw [decide_eq_true_eq]; omega)]
  exact key K 0 (by omega) (by omega)
def KP : Nat := 10000000
theorem awake_true : w15_awake.f KP = some true := by decide +kernel
theorem empty_some : (code_Compile.f KP []).isSome = true := by decide +kernel
theorem code_prints_true (s : List UInt8) : ∃ K, w15_CodePrints.f K s = some true := by
  refine ⟨KP, ?_⟩
  have hK : KP = 10000000 := rfl
  unfold w15_CodePrints.f
  obtain ⟨r, h1, h2⟩ := parse_sat KP (by omega) s
  rw [h1, Option.bind_some, awake_true, Option.bind_some]
  by_cases hz : r.2.2 = 0
  · have hp := h2 hz
    obtain ⟨p1, p2, p3, p4⟩ := hp
    have hl := sts_len r.1 p3
    rw [if_neg (by simp [hz]), steps_text 500 r.1 KP p4 (by omega) p3 p2 (by omega), Option.bind_some, if_pos (by simp only [List.length_cons, List.length_nil]; omega)]
    obtain ⟨q, g1, g2, g3⟩ := again KP (by omega) r.1 ⟨p1, p2, p3, p4⟩
    rw [g1, Option.bind_some]
    obtain ⟨c, c1, c2, c3⟩ := compile_sat r.1 ⟨p1, p2, p3, p4⟩ KP (by omega)
    rw [c1, Option.bind_some]
    by_cases hq : q.2.2 = 0
    · rw [g2 hq, c1, Option.bind_some, hq, if_pos (by simp)]
      have hb : c.1.Bodies.length ≤ 500 ∧ ∀ b ∈ c.1.Bodies, b.length ≤ 150 ∧ ∀ x ∈ b, Sml x := by
        by_cases hc : c.2 = 0
        · obtain ⟨ins, rest, e, o, l1, _⟩ := c3 hc
          rw [e]
          exact ⟨l1, o.small⟩
        · rw [c2 hc]
          exact ⟨by simp, fun b hb => by cases hb⟩
      rw [same_prog KP (by omega) c.1 hb.1 hb.2, Option.bind_some]
      simp
    · obtain ⟨d, d1⟩ := Option.isSome_iff_exists.1 empty_some
      rw [g3 hq, d1, Option.bind_some, if_neg (by simp [hq]), Option.bind_some]
      simp [hq]
  · rw [if_pos (by simp [hz]), Option.bind_some]
end Go.Proofs.Ytbjbgodcenopnaa

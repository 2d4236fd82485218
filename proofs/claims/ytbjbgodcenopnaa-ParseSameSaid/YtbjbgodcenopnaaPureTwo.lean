/- Plain law of parse: two lists of words that differ in places alone come to the same, or to an error of the same number. -/
import Derived.Test.YtbjbgodcenopnaaPdD
import Derived.Test.YtbjbgodcenopnaaPureBase
namespace Go.Proofs.Ytbjbgodcenopnaa
set_option linter.unusedVariables false
set_option maxHeartbeats 1000000
def Two {α : Type} (x x' : Option (Except (Int × Int) α)) (P : α → α → Prop) : Prop :=
  (∃ e e', x = some (.error e) ∧ x' = some (.error e') ∧ e.2 = e'.2) ∨ (∃ r r', x = some (.ok r) ∧ x' = some (.ok r') ∧ P r r')
section
variable {α β : Type}
theorem Two.ok {r r' : α} {P : α → α → Prop} (h : P r r') : Two (some (.ok r)) (some (.ok r')) P := .inr ⟨r, r', rfl, rfl, h⟩
theorem Two.mono {x x' : Option (Except (Int × Int) α)} {P Q : α → α → Prop} (h : Two x x' P) (hq : ∀ r r', P r r' → Q r r') : Two x x' Q := by
  rcases h with h | ⟨r, r', h1, h2, h3⟩
  · exact .inl h
  · exact .inr ⟨r, r', h1, h2, hq _ _ h3⟩
theorem Two.bindX {x x' : Option (Except (Int × Int) β)} {P : β → β → Prop} {F F' : β → Option (Except (Int × Int) α)} {Q : α → α → Prop} (h : Two x x' P) (hF : ∀ r r', P r r' → Two (F r) (F' r') Q) : Two (FW.bindX x F) (FW.bindX x' F') Q := by
  rcases h with ⟨e, e', rfl, rfl, h3⟩ | ⟨r, r', rfl, rfl, h3⟩
  · exact .inl ⟨e, e', rfl, rfl, h3⟩
  · exact hF r r' h3
theorem Two.bind {x x' : Option β} {r r' : β} {F F' : β → Option (Except (Int × Int) α)} {Q : α → α → Prop} (h : x = some r) (h' : x' = some r') (hF : Two (F r) (F' r') Q) : Two (Option.bind x F) (Option.bind x' F') Q := by subst h; subst h'; exact hF
theorem Two.ite {b : Bool} {A A' B B' : Option (Except (Int × Int) α)} {Q : α → α → Prop} (h1 : b = true → Two A A' Q) (h2 : b = false → Two B B' Q) : Two (if b = true then A else B) (if b = true then A' else B') Q := by
  cases b with
  | true => rw [if_pos rfl, if_pos rfl]; exact h1 rfl
  | false => rw [if_neg (by simp), if_neg (by simp)]; exact h2 rfl
theorem Two.chk {p p' : Prop} [Decidable p] [Decidable p'] {A A' : Option (Except (Int × Int) α)} {Q : α → α → Prop} (h : p) (h' : p') (hA : Two A A' Q) : Two (if p then A else none) (if p' then A' else none) Q := by rw [if_pos h, if_pos h']; exact hA
end
/-- Words that differ in their places alone. -/
structure WL (l l' : List ApiWord) : Prop where
  len : l'.length = l.length
  few : l.length ≤ 1501
  k : ∀ j, (l'.getD j default).Kind = (l.getD j default).Kind
  s : ∀ j, (l'.getD j default).S = (l.getD j default).S
  n : ∀ j, (l'.getD j default).N = (l.getD j default).N
  f : ∀ j, (l'.getD j default).F = (l.getD j default).F
  names : ∀ j, (l.getD j default).Kind = 1 → 0 < (l.getD j default).S.length
  last : ∀ j, j + 1 = l.length → (l.getD j default).Kind = 0
structure In (l : List ApiWord) (i d s : Int) : Prop where
  i0 : 0 ≤ i
  i1 : i < (l.length : Int)
  d0 : 0 ≤ d
  d1 : d ≤ 12
  s0 : 0 ≤ s
  s1 : s ≤ 1000
theorem W1 {l : List ApiWord} {i d s : Int} (h : In l i d s) (hl : l.length ≤ 1501) : IntKind.wrap .i64 (i + 1) = i + 1 := W_in (by have := h.i0; omega) (by have := h.i1; omega)
section
variable {l l' : List ApiWord} {i d s : Int}
theorem In.adv (w : WL l l') (h : In l i d s) (hk : (l.getD i.toNat default).Kind ≠ 0) : In l (i + 1) d s := by
  refine ⟨by have := h.i0; omega, ?_, h.d0, h.d1, h.s0, h.s1⟩
  false_or_by_contra
  rename_i hn
  have h1 := h.i1
  have h0 := h.i0
  exact hk (w.last i.toNat (by omega))
theorem stop_two (w : WL l l') (h : In l i d s) (e : Int) {Q : OParseParser → OParseParser → Prop} : Two (parse_parser_stop.f ⟨l, i, d, s⟩ e) (parse_parser_stop.f ⟨l', i, d, s⟩ e) Q := by
  unfold parse_parser_stop.f
  dsimp only
  rw [w.len, if_pos ⟨h.i0, h.i1⟩, if_pos ⟨h.i0, h.i1⟩]
  exact .inl ⟨_, _, rfl, rfl, rfl⟩
theorem sign_val (m : List ApiWord) (i d s : Int) (v : List UInt8) (hi : 0 ≤ i ∧ i < (m.length : Int)) (hw : IntKind.wrap .i64 (i + 1) = i + 1) {k : Int} {t : List UInt8} (hk : (m.getD i.toNat default).Kind = k) (ht : (m.getD i.toNat default).S = t) :
    parse_parser_sign.f ⟨m, i, d, s⟩ v = some (decide (k = 5) && decide (t = v), ⟨m, if k = 5 ∧ t = v then i + 1 else i, d, s⟩) := by
  unfold parse_parser_sign.f
  dsimp only
  rw [if_pos hi, hk, ht, hw]
  by_cases h1 : k = 5 <;> by_cases h2 : t = v <;> simp [h1, h2]
theorem sign_eq (w : WL l l') (h : In l i d s) (v : List UInt8) : ∃ b i2, parse_parser_sign.f ⟨l, i, d, s⟩ v = some (b, ⟨l, i2, d, s⟩) ∧ parse_parser_sign.f ⟨l', i, d, s⟩ v = some (b, ⟨l', i2, d, s⟩) ∧ In l i2 d s ∧ i ≤ i2 ∧ (b = true → i < i2) := by
  refine ⟨_, _, sign_val l i d s v ⟨h.i0, h.i1⟩ (W1 h w.few) rfl rfl, sign_val l' i d s v ⟨h.i0, by rw [w.len]; exact h.i1⟩ (W1 h w.few) (w.k _) (w.s _), ?_, ?_, ?_⟩
  · split
    · rename_i hc; exact h.adv w (by rw [hc.1]; decide)
    · exact h
  · split <;> omega
  · intro e
    rw [Bool.and_eq_true, decide_eq_true_eq, decide_eq_true_eq] at e
    rw [if_pos e]; omega
theorem must_two (w : WL l l') (h : In l i d s) (v : List UInt8) : Two (parse_parser_must.f ⟨l, i, d, s⟩ v) (parse_parser_must.f ⟨l', i, d, s⟩ v) (fun r r' => ∃ i2, r = ⟨l, i2, d, s⟩ ∧ r' = ⟨l', i2, d, s⟩ ∧ In l i2 d s ∧ i < i2) := by
  unfold parse_parser_must.f
  obtain ⟨b, i2, h1, h2, h3, h4, h5⟩ := sign_eq w h v
  refine Two.bind h1 h2 ?_
  cases b with
  | false => exact Two.ite (fun _ => Two.bindX (stop_two w h3 120 (Q := fun _ _ => False)) (fun _ _ hf => hf.elim)) (fun e => by cases e)
  | true => exact Two.ite (fun e => by cases e) (fun _ => Two.ok ⟨i2, rfl, rfl, h3, h5 rfl⟩)
theorem name_two (w : WL l l') (h : In l i d s) : Two (parse_parser_name.f ⟨l, i, d, s⟩) (parse_parser_name.f ⟨l', i, d, s⟩) (fun r r' => ∃ x i2, r = (x, ⟨l, i2, d, s⟩) ∧ r' = (x, ⟨l', i2, d, s⟩) ∧ In l i2 d s ∧ i < i2) := by
  unfold parse_parser_name.f
  dsimp only
  simp only [w.k, w.s, w.len]
  refine Two.chk ⟨h.i0, h.i1⟩ ⟨h.i0, h.i1⟩ ?_
  by_cases hk : (l.getD i.toNat default).Kind = 1
  · have hn := w.names _ hk
    refine Two.chk (fun _ => ⟨by omega, by omega⟩) (fun _ => ⟨by omega, by omega⟩) ?_
    refine Two.chk (fun _ _ => ⟨by omega, by omega⟩) (fun _ _ => ⟨by omega, by omega⟩) ?_
    refine Two.ite (fun _ => Two.bindX (stop_two w h 120 (Q := fun _ _ => False)) (fun _ _ hf => hf.elim)) (fun _ => ?_)
    unfold parse_parser_name.j1
    rw [W1 h w.few]
    exact Two.ok ⟨_, i + 1, rfl, by rw [w.s], h.adv w (by rw [hk]; decide), by omega⟩
  · have hd : decide ((l.getD i.toNat default).Kind = 1) = false := by simpa only [decide_eq_false_iff_not] using hk
    refine Two.chk (fun e => by rw [hd] at e; cases e) (fun e => by rw [hd] at e; cases e) ?_
    refine Two.chk (fun _ e => by rw [hd] at e; cases e) (fun _ e => by rw [hd] at e; cases e) ?_
    refine Two.ite (fun _ => Two.bindX (stop_two w h 120 (Q := fun _ _ => False)) (fun _ _ hf => hf.elim)) (fun e => by rw [hd] at e; cases e)
theorem into_two (w : WL l l') (h : In l i d s) : Two (parse_parser_into.f ⟨l, i, d, s⟩) (parse_parser_into.f ⟨l', i, d, s⟩) (fun r r' => r = ⟨l, i, d + 1, s⟩ ∧ r' = ⟨l', i, d + 1, s⟩ ∧ In l i (d + 1) s) := by
  unfold parse_parser_into.f
  dsimp only
  refine Two.ite (fun _ => Two.bindX (stop_two w h 3 (Q := fun _ _ => False)) (fun _ _ hf => hf.elim)) (fun e => ?_)
  unfold parse_parser_into.j1
  have := h.d0
  have := h.d1
  simp only [decide_eq_false_iff_not] at e
  rw [W_in (by omega) (by omega)]
  exact Two.ok ⟨rfl, rfl, ⟨h.i0, h.i1, by omega, by omega, h.s0, h.s1⟩⟩
theorem canon_tot (f : Nat) : ∃ x, num_Canon.f f = some x := by unfold num_Canon.f; split <;> exact ⟨_, rfl⟩
/-! Sizes. -/
mutual
def szV : ApiValue → Nat
  | ⟨_, _, _, _, _, L⟩ => 1 + szVL L
def szVL : List ApiValue → Nat
  | [] => 0
  | x :: r => szV x + szVL r
end
theorem szVL_snoc : ∀ (l : List ApiValue) (x : ApiValue), szVL (l ++ [x]) = szVL l + szV x
  | [], x => by simp [szVL]
  | y :: l, x => by simp [szVL, szVL_snoc l x, Nat.add_assoc]
/-- What a value comes to. -/
def PV (l l' : List ApiWord) (i d s : Int) (r r' : ApiValue × Bool × OParseParser) : Prop := ∃ v b i2, r = (v, b, ⟨l, i2, d, s⟩) ∧ r' = (v, b, ⟨l', i2, d, s⟩) ∧ In l i2 d s ∧ i ≤ i2 ∧ (b = true → i < i2 ∧ (szV v : Int) ≤ i2 - i)
def PVs (l l' : List ApiWord) (i d s : Int) (n : Nat) (r r' : List ApiValue × OParseParser) : Prop := ∃ v i2, r = (v, ⟨l, i2, d, s⟩) ∧ r' = (v, ⟨l', i2, d, s⟩) ∧ In l i2 d s ∧ i ≤ i2 ∧ (szVL v : Int) ≤ n + (i2 - i)
theorem value_b {sv : OParseParser → Option (Except (Int × Int) (ApiValue × Bool × OParseParser))} {svs : OParseParser → List UInt8 → Option (Except (Int × Int) (List ApiValue × OParseParser))} (K : Nat) (w : WL l l') (h : In l i d s)
    (hvs : ∀ i2 v, In l i2 d s → Two (svs ⟨l, i2, d, s⟩ v) (svs ⟨l', i2, d, s⟩ v) (PVs l l' i2 d s 0)) : Two (parse_parser_value.b sv svs K ⟨l, i, d, s⟩) (parse_parser_value.b sv svs K ⟨l', i, d, s⟩) (PV l l' i d s) := by
  unfold parse_parser_value.b
  dsimp only
  simp only [w.k, w.s, w.n, w.f, w.len]
  refine Two.chk ⟨h.i0, h.i1⟩ ⟨h.i0, h.i1⟩ ?_
  rw [W1 h w.few]
  have adv : ∀ {v : ApiValue}, szV v = 1 → (l.getD i.toNat default).Kind ≠ 0 → PV l l' i d s (v, true, ⟨l, i + 1, d, s⟩) (v, true, ⟨l', i + 1, d, s⟩) := fun hz hk => ⟨_, _, i + 1, rfl, rfl, h.adv w hk, by omega, fun _ => by omega⟩
  refine Two.ite (fun e => ?_) (fun _ => ?_)
  · exact Two.bind rfl rfl (Two.ok (adv (by simp [szV, szVL]) (by simp only [decide_eq_true_eq] at e; rw [e]; decide)))
  refine Two.ite (fun e => ?_) (fun _ => ?_)
  · obtain ⟨x, hx⟩ := canon_tot (l.getD i.toNat default).F
    have hv : val_Float.f (l.getD i.toNat default).F = some ⟨3, false, 0, x, [], []⟩ := by unfold val_Float.f; rw [hx]; rfl
    exact Two.bind hv hv (Two.ok (adv (by simp [szV, szVL]) (by simp only [decide_eq_true_eq] at e; rw [e]; decide)))
  refine Two.ite (fun e => ?_) (fun _ => ?_)
  · exact Two.bind rfl rfl (Two.ok (adv (by simp [szV, szVL]) (by simp only [decide_eq_true_eq] at e; rw [e]; decide)))
  refine Two.ite (fun e => ?_) (fun _ => ?_)
  · exact Two.bind rfl rfl (Two.ok (adv (by simp [szV, szVL]) (by simp only [Bool.and_eq_true, decide_eq_true_eq] at e; rw [e.1]; decide)))
  refine Two.ite (fun e => ?_) (fun _ => ?_)
  · exact Two.bind rfl rfl (Two.ok (adv (by simp [szV, szVL]) (by simp only [Bool.and_eq_true, decide_eq_true_eq] at e; rw [e.1]; decide)))
  obtain ⟨b, i2, h1, h2, h3, h4, h5⟩ := sign_eq w h [91]
  refine Two.bind h1 h2 ?_
  cases b with
  | true =>
    refine Two.ite (fun _ => ?_) (fun e => by cases e)
    refine Two.bindX (hvs i2 [93] h3) ?_
    rintro r r' ⟨v, i3, rfl, rfl, h6, h7, h8⟩
    have := h5 rfl
    refine Two.bind rfl rfl (Two.ok ⟨_, _, i3, rfl, rfl, h6, by omega, fun _ => ?_⟩)
    simp only [szV]
    omega
  | false =>
    refine Two.ite (fun e => by cases e) (fun _ => ?_)
    exact Two.ok ⟨_, _, i2, rfl, rfl, h3, h4, fun e => by cases e⟩
theorem decr_one {x : Int} (h0 : 0 ≤ x) (h1 : x ≤ 100) : FW.decrN 1 (x + 1) = x := by
  unfold FW.decrN FW.decrN
  rw [W_in (by omega) (by omega)]; omega
theorem values_l1 {sv : OParseParser → Option (Except (Int × Int) (ApiValue × Bool × OParseParser))} {svs : OParseParser → List UInt8 → Option (Except (Int × Int) (List ApiValue × OParseParser))} (K : Nat) (w : WL l l') (hd : 0 ≤ d ∧ d ≤ 12)
    (hv : ∀ i2, In l i2 (d + 1) s → Two (sv ⟨l, i2, d + 1, s⟩) (sv ⟨l', i2, d + 1, s⟩) (PV l l' i2 (d + 1) s)) (v1 : List UInt8) : ∀ (k : Nat) (i : Int) (out : List ApiValue), In l i (d + 1) s → out.length ≤ 12 → (l.length : Int) - i < k →
    Two (parse_parser_values.l1 sv svs K k out 1 l i (d + 1) s v1) (parse_parser_values.l1 sv svs K k out 1 l' i (d + 1) s v1) (PVs l l' i d s (szVL out)) := by
  intro k
  induction k with
  | zero => intro i out h0 h1 h2; have := h0.i1; omega
  | succ k ih =>
    intro i out h0 h1 h2
    rw [parse_parser_values.l1, parse_parser_values.l1]
    obtain ⟨b, i2, g1, g2, g3, g4, g5⟩ := sign_eq w h0 v1
    refine Two.bind g1 g2 ?_
    have j1 : ∀ i3, In l i3 (d + 1) s → i2 ≤ i3 → Two (parse_parser_values.j1 sv svs (parse_parser_values.l1 sv svs K k) K l i3 (d + 1) s out 1 v1) (parse_parser_values.j1 sv svs (parse_parser_values.l1 sv svs K k) K l' i3 (d + 1) s out 1 v1) (PVs l l' i d s (szVL out)) := by
      intro i3 h3 h4
      unfold parse_parser_values.j1
      refine Two.ite (fun _ => Two.bindX (stop_two w h3 3 (Q := fun _ _ => False)) (fun _ _ hf => hf.elim)) (fun e => ?_)
      simp only [decide_eq_false_iff_not] at e
      unfold parse_parser_values.j2
      refine Two.bindX (hv i3 h3) ?_
      rintro r r' ⟨v, b, i4, rfl, rfl, h5, h6, h7⟩
      cases b with
      | false => exact Two.ite (fun _ => Two.bindX (stop_two w h5 120 (Q := fun _ _ => False)) (fun _ _ hf => hf.elim)) (fun e => by cases e)
      | true =>
        refine Two.ite (fun e => by cases e) (fun _ => ?_)
        unfold parse_parser_values.j3
        dsimp only
        refine Two.chk (by simp; omega) (by simp; omega) ?_
        have := h7 rfl
        refine (ih i4 _ h5 (by simp; omega) (by omega)).mono ?_
        rintro r r' ⟨v, i5, rfl, rfl, h8, h9, h10⟩
        rw [szVL_snoc] at h10
        exact ⟨v, i5, rfl, rfl, h8, by omega, by omega⟩
    cases b with
    | true =>
      refine Two.ite (fun e => by cases e) (fun _ => ?_)
      dsimp only
      rw [decr_one hd.1 (by omega)]
      exact Two.ok ⟨out, i2, rfl, rfl, ⟨g3.i0, g3.i1, hd.1, hd.2, g3.s0, g3.s1⟩, g4, by omega⟩
    | false =>
      refine Two.ite (fun _ => ?_) (fun e => by cases e)
      refine Two.ite (fun _ => ?_) (fun _ => j1 i2 g3 (Int.le_refl _))
      refine Two.bindX (must_two w g3 [44]) ?_
      rintro r r' ⟨i3, rfl, rfl, h5, h6⟩
      exact j1 i3 h5 (by omega)
theorem values_two (w : WL l l') : ∀ (K : Nat), (∀ (i d s : Int), In l i d s → 2000 + 2 * (13 - d) + 1 ≤ (K : Int) → Two (parse_parser_value.f K ⟨l, i, d, s⟩) (parse_parser_value.f K ⟨l', i, d, s⟩) (PV l l' i d s)) ∧
    (∀ (i d s : Int) (v : List UInt8), In l i d s → 2000 + 2 * (13 - d) ≤ (K : Int) → Two (parse_parser_values.f K ⟨l, i, d, s⟩ v) (parse_parser_values.f K ⟨l', i, d, s⟩ v) (PVs l l' i d s 0)) := by
  intro K
  induction K with
  | zero =>
    refine ⟨fun i d s h hK => ?_, fun i d s v h hK => ?_⟩
    · have := h.d1; omega
    · have := h.d1; omega
  | succ K ih =>
    refine ⟨fun i d s h hK => ?_, fun i d s v h hK => ?_⟩
    · rw [parse_parser_value.f, parse_parser_value.f]
      exact value_b K w h fun i2 v h2 => ih.2 i2 d s v h2 (by omega)
    · rw [parse_parser_values.f, parse_parser_values.f]
      unfold parse_parser_values.b
      refine Two.bindX (into_two w h) ?_
      rintro r r' ⟨rfl, rfl, h2⟩
      dsimp only
      have := w.few
      have := h.d1
      have := h.i0
      exact values_l1 K w ⟨h.d0, h.d1⟩ (fun i2 h3 => ih.1 i2 (d + 1) s h3 (by omega)) v K i [] h2 (by simp) (by omega)
end
end Go.Proofs.Ytbjbgodcenopnaa

/- Plain law of parse: two lists of words that differ in places alone: predicates, arguments, steps, the whole. -/
import Derived.Test.YtbjbgodcenopnaaPureTwo
namespace Go.Proofs.Ytbjbgodcenopnaa
set_option linter.unusedVariables false
set_option maxHeartbeats 1000000
mutual
def szP : ApiPred → Nat
  | ⟨_, L, Ks⟩ => 1 + szVL L + szPL Ks
def szPL : List ApiPred → Nat
  | [] => 0
  | x :: r => szP x + szPL r
end
mutual
def szS : ApiStep → Nat
  | ⟨_, As⟩ => 1 + szAL As
def szSL : List ApiStep → Nat
  | [] => 0
  | x :: r => szS x + szSL r
def szA : ApiArg → Nat
  | ⟨_, V, P, T⟩ => 1 + szV V + szP P + szSL T
def szAL : List ApiArg → Nat
  | [] => 0
  | x :: r => szA x + szAL r
end
theorem szSL_snoc : ∀ (l : List ApiStep) (x : ApiStep), szSL (l ++ [x]) = szSL l + szS x
  | [], x => by simp [szSL]
  | y :: l, x => by simp [szSL, szSL_snoc l x, Nat.add_assoc]
theorem szAL_snoc : ∀ (l : List ApiArg) (x : ApiArg), szAL (l ++ [x]) = szAL l + szA x
  | [], x => by simp [szAL]
  | y :: l, x => by simp [szAL, szAL_snoc l x, Nat.add_assoc]
theorem ite_tot {α : Type} {b : Bool} {A B : Option α} (h1 : ∃ r, A = some r) (h2 : ∃ r, B = some r) : ∃ r, (if b = true then A else B) = some r := by
  cases b with
  | true => obtain ⟨r, h⟩ := h1; exact ⟨r, by rw [if_pos rfl, h]⟩
  | false => obtain ⟨r, h⟩ := h2; exact ⟨r, by rw [if_neg (by simp), h]⟩
theorem preds_tot (x : List UInt8) : ∃ r, parse_Preds.f x = some r := by
  unfold parse_Preds.f parse_Preds.j1 parse_Preds.j2 parse_Preds.j3
  repeat' (first | exact ⟨_, rfl⟩ | refine ite_tot ?_ ?_)
theorem decr_n : ∀ (n : Nat) (x : Int), 0 ≤ x → x + n ≤ 1000 → FW.decrN n (x + n) = x
  | 0, x, _, _ => by simp [FW.decrN]
  | n + 1, x, h0, h1 => by
    unfold FW.decrN
    rw [W_in (by omega) (by omega), show x + ((n + 1 : Nat) : Int) - 1 = x + n from by omega]
    exact decr_n n x h0 (by omega)
section
variable {l l' : List ApiWord} {i d s : Int}
theorem stop_two' (w : WL l l') (h0 : 0 ≤ i) (h1 : i < (l.length : Int)) (e : Int) {Q : OParseParser → OParseParser → Prop} : Two (parse_parser_stop.f ⟨l, i, d, s⟩ e) (parse_parser_stop.f ⟨l', i, d, s⟩ e) Q := by
  unfold parse_parser_stop.f
  dsimp only
  rw [w.len, if_pos ⟨h0, h1⟩, if_pos ⟨h0, h1⟩]
  exact .inl ⟨_, _, rfl, rfl, rfl⟩
theorem stopX {α : Type} (w : WL l l') (h0 : 0 ≤ i) (h1 : i < (l.length : Int)) (e : Int) {F F' : OParseParser → Option (Except (Int × Int) α)} {Q : α → α → Prop} : Two (FW.bindX (parse_parser_stop.f ⟨l, i, d, s⟩ e) F) (FW.bindX (parse_parser_stop.f ⟨l', i, d, s⟩ e) F') Q :=
  Two.bindX (stop_two' w h0 h1 e (Q := fun _ _ => False)) (fun _ _ hf => hf.elim)
/-- What a predicate comes to; n: what was there ahead of it. -/
def PP (l l' : List ApiWord) (i d s : Int) (n : Nat) (r r' : ApiPred × OParseParser) : Prop := ∃ x i2, r = (x, ⟨l, i2, d, s⟩) ∧ r' = (x, ⟨l', i2, d, s⟩) ∧ In l i2 d s ∧ i ≤ i2 ∧ (szP x : Int) ≤ n + (i2 - i)
theorem pred_l1 {sp : OParseParser → Option (Except (Int × Int) (ApiPred × OParseParser))} (K : Nat) (w : WL l l') (hd : 0 ≤ d ∧ d ≤ 12)
    (hp : ∀ i2 d2, In l i2 d2 s → d < d2 → Two (sp ⟨l, i2, d2, s⟩) (sp ⟨l', i2, d2, s⟩) (PP l l' i2 d2 s 0)) : ∀ (k : Nat) (i : Int) (dn : Nat) (y z : ApiPred), In l i (d + dn) s → (l.length : Int) - i < k →
    Two (parse_parser_pred.l1 sp K k l i (d + dn) s y z dn) (parse_parser_pred.l1 sp K k l' i (d + dn) s y z dn) (PP l l' i d s (szP y)) := by
  intro k
  induction k with
  | zero => intro i dn y z h0 h1; have := h0.i1; omega
  | succ k ih =>
    intro i dn y z h0 h1
    rw [parse_parser_pred.l1, parse_parser_pred.l1]
    obtain ⟨b, i2, g1, g2, g3, g4, g5⟩ := sign_eq w h0 [46]
    refine Two.bind g1 g2 ?_
    cases b with
    | false =>
      refine Two.ite (fun e => by cases e) (fun _ => ?_)
      dsimp only
      have := h0.d1
      rw [decr_n dn d hd.1 (by omega)]
      exact Two.ok ⟨y, i2, rfl, rfl, ⟨g3.i0, g3.i1, hd.1, hd.2, g3.s0, g3.s1⟩, g4, by omega⟩
    | true =>
      have hi2 := g5 rfl
      refine Two.ite (fun _ => ?_) (fun e => by cases e)
      refine Two.bindX (into_two w g3) ?_
      rintro r r' ⟨rfl, rfl, h2⟩
      refine Two.bindX (name_two w h2) ?_
      rintro r r' ⟨x, i3, rfl, rfl, h3, h4⟩
      refine Two.bindX (must_two w h3 [40]) ?_
      rintro r r' ⟨i4, rfl, rfl, h5, h6⟩
      dsimp only
      have hdn : d + (dn : Int) + 1 = d + ((dn + 1 : Nat) : Int) := by omega
      have j3 : ∀ (i5 : Int) (u : ApiPred), In l i5 (d + (dn : Int) + 1) s → i4 ≤ i5 → (szP u : Int) ≤ szP y + (i5 - i) →
          Two (parse_parser_pred.j3 sp (parse_parser_pred.l1 sp K k) K l i5 (d + (dn : Int) + 1) s (dn + 1) u z) (parse_parser_pred.j3 sp (parse_parser_pred.l1 sp K k) K l' i5 (d + (dn : Int) + 1) s (dn + 1) u z) (PP l l' i d s (szP y)) := by
        intro i5 u h7 h8 h9
        unfold parse_parser_pred.j3
        refine Two.bindX (must_two w h7 [41]) ?_
        rintro r r' ⟨i6, rfl, rfl, h10, h11⟩
        dsimp only
        rw [hdn] at h10 ⊢
        refine (ih i6 (dn + 1) u z h10 (by omega)).mono ?_
        rintro r r' ⟨x, i7, rfl, rfl, h12, h13, h14⟩
        exact ⟨x, i7, rfl, rfl, h12, by omega, by omega⟩
      have j4 : ∀ (v69 : Bool), Two (parse_parser_pred.j4 sp (parse_parser_pred.l1 sp K k) K l i4 (d + (dn : Int) + 1) s (dn + 1) y z i2 x x v69) (parse_parser_pred.j4 sp (parse_parser_pred.l1 sp K k) K l' i4 (d + (dn : Int) + 1) s (dn + 1) y z i2 x x v69) (PP l l' i d s (szP y)) := by
        intro v69
        unfold parse_parser_pred.j4
        refine Two.ite (fun _ => ?_) (fun _ => ?_)
        · refine Two.bindX (hp i4 _ h5 (by omega)) ?_
          rintro r r' ⟨u, i5, rfl, rfl, h7, h8, h9⟩
          dsimp only
          refine j3 i5 _ h7 h8 ?_
          simp only [szP, szPL, szVL]
          omega
        · refine Two.ite (fun _ => ?_) (fun _ => stopX w g3.i0 g3.i1 120)
          refine j3 i4 _ h5 (Int.le_refl _) ?_
          simp only [szP, szPL, szVL]
          omega
      exact Two.ite (fun _ => j4 _) (fun _ => j4 _)
theorem pred_two (w : WL l l') : ∀ (K : Nat) (i d s : Int), In l i d s → 3000 + (13 - d) ≤ (K : Int) → Two (parse_parser_pred.f K ⟨l, i, d, s⟩) (parse_parser_pred.f K ⟨l', i, d, s⟩) (fun r r' => PP l l' i d s 0 r r' ∧ i < r.2.i) := by
  intro K
  induction K with
  | zero => intro i d s h hK; have := h.d1; omega
  | succ K ih =>
    intro i d s h hK
    rw [parse_parser_pred.f, parse_parser_pred.f]
    unfold parse_parser_pred.b
    refine Two.bindX (name_two w h) ?_
    rintro r r' ⟨x, i2, rfl, rfl, h2, h3⟩
    obtain ⟨t, ht⟩ := preds_tot x
    refine Two.bind ht ht ?_
    refine Two.ite (fun _ => stopX w h.i0 h.i1 120) (fun _ => ?_)
    unfold parse_parser_pred.j1
    refine Two.bindX (must_two w h2 [40]) ?_
    rintro r r' ⟨i3, rfl, rfl, h4, h5⟩
    have hd0 := h.d0
    have hd1 := h.d1
    refine Two.bindX ((values_two w K).2 i3 d s [41] h4 (by omega)) ?_
    rintro r r' ⟨v, i4, rfl, rfl, h6, h7, h8⟩
    refine Two.ite (fun _ => stopX w h.i0 h.i1 120) (fun _ => ?_)
    unfold parse_parser_pred.j2
    have h6' : In l i4 (d + (0 : Nat)) s := by simpa using h6
    have := pred_l1 (sp := parse_parser_pred.f K) K w ⟨hd0, hd1⟩ (fun i5 d5 g1 g2 => (ih i5 d5 s g1 (by omega)).mono fun r r' g => g.1) K i4 0 ⟨x, v, []⟩ ⟨[], [], []⟩ h6' (by have := w.few; have := h6.i0; omega)
    simp only [Int.ofNat_zero, Int.natCast_zero, Int.add_zero, Int.cast_ofNat_Int] at this
    refine this.mono ?_
    rintro r r' ⟨u, i5, rfl, rfl, h9, h10, h11⟩
    simp only [szP, szPL] at h11
    exact ⟨⟨u, i5, rfl, rfl, h9, by omega, by omega⟩, by show i < i5; omega⟩
/-- What steps come to. -/
def PSL (l l' : List ApiWord) (i d : Int) (r r' : List ApiStep × OParseParser) : Prop := ∃ x i2 s2, r = (x, ⟨l, i2, d, s2⟩) ∧ r' = (x, ⟨l', i2, d, s2⟩) ∧ In l i2 d s2 ∧ i < i2 ∧ (szSL x : Int) + 7 ≤ 4 * (i2 - i)
def PS1 (l l' : List ApiWord) (i d : Int) (r r' : ApiStep × OParseParser) : Prop := ∃ x i2 s2, r = (x, ⟨l, i2, d, s2⟩) ∧ r' = (x, ⟨l', i2, d, s2⟩) ∧ In l i2 d s2 ∧ i < i2 ∧ (szS x : Int) + 7 ≤ 4 * (i2 - i)
def PA (l l' : List ApiWord) (i d : Int) (r r' : ApiArg × OParseParser) : Prop := ∃ x i2 s2, r = (x, ⟨l, i2, d, s2⟩) ∧ r' = (x, ⟨l', i2, d, s2⟩) ∧ In l i2 d s2 ∧ i < i2 ∧ (szA x : Int) ≤ 4 * (i2 - i)
section
variable {sc : OParseParser → Option (Except (Int × Int) (List ApiStep × OParseParser))} {ss : OParseParser → Option (Except (Int × Int) (ApiStep × OParseParser))} {sa : OParseParser → Option (Except (Int × Int) (ApiArg × OParseParser))} {sd : OParseParser → Option (Except (Int × Int) (List ApiStep × OParseParser))}
theorem chain_l1 (K : Nat) (w : WL l l') (h : ∀ i s, In l i d s → Two (ss ⟨l, i, d, s⟩) (ss ⟨l', i, d, s⟩) (PS1 l l' i d)) (j : Int) : ∀ (k : Nat) (i s : Int) (out : List ApiStep), In l i d s → (l.length : Int) - i < k → (out.length : Int) ≤ i → j < i → (szSL out : Int) + 7 ≤ 4 * (i - j) →
    Two (parse_parser_chain.l1 sc ss sa sd K k out l i d s) (parse_parser_chain.l1 sc ss sa sd K k out l' i d s) (PSL l l' j d) := by
  intro k
  induction k with
  | zero => intro i s out h0 h1; have := h0.i1; omega
  | succ k ih =>
    intro i s out h0 h1 h2 h3 h4
    rw [parse_parser_chain.l1, parse_parser_chain.l1]
    obtain ⟨b, i2, g1, g2, g3, g4, g5⟩ := sign_eq w h0 [46]
    refine Two.bind g1 g2 ?_
    cases b with
    | false =>
      refine Two.ite (fun e => by cases e) (fun _ => ?_)
      exact Two.ok ⟨out, i2, s, rfl, rfl, g3, by omega, by omega⟩
    | true =>
      have hi2 := g5 rfl
      refine Two.ite (fun _ => ?_) (fun e => by cases e)
      refine Two.bindX (h i2 s g3) ?_
      rintro r r' ⟨x, i3, s3, rfl, rfl, h5, h6, h7⟩
      dsimp only
      have := h5.i1
      have := w.few
      refine Two.chk (by simp; omega) (by simp; omega) ?_
      refine ih i3 s3 _ h5 (by omega) (by simp; omega) (by omega) ?_
      rw [szSL_snoc]; omega
theorem step_l1 (K : Nat) (w : WL l l') (h : ∀ i s, In l i d s → Two (sa ⟨l, i, d, s⟩) (sa ⟨l', i, d, s⟩) (PA l l' i d)) (nm : List UInt8) (y2 : ApiStep) (j : Int) : ∀ (k : Nat) (i s : Int) (out : List ApiArg), In l i d s → (l.length : Int) - i < k → out.length ≤ 12 → j + 2 ≤ i → (szAL out : Int) ≤ 4 * (i - j - 2) →
    Two (parse_parser_step.l1 sc ss sa sd K k l i d s out nm y2) (parse_parser_step.l1 sc ss sa sd K k l' i d s out nm y2) (PS1 l l' j d) := by
  intro k
  induction k with
  | zero => intro i s out h0 h1; have := h0.i1; omega
  | succ k ih =>
    intro i s out h0 h1 h2 h3 h4
    rw [parse_parser_step.l1, parse_parser_step.l1]
    obtain ⟨b, i2, g1, g2, g3, g4, g5⟩ := sign_eq w h0 [41]
    refine Two.bind g1 g2 ?_
    have j2 : ∀ i3, In l i3 d s → i2 ≤ i3 → Two (parse_parser_step.j2 sc ss sa sd (parse_parser_step.l1 sc ss sa sd K k) K l i3 d s out nm y2) (parse_parser_step.j2 sc ss sa sd (parse_parser_step.l1 sc ss sa sd K k) K l' i3 d s out nm y2) (PS1 l l' j d) := by
      intro i3 h5 h6
      unfold parse_parser_step.j2
      refine Two.ite (fun _ => stopX w h5.i0 h5.i1 3) (fun e => ?_)
      simp only [decide_eq_false_iff_not] at e
      unfold parse_parser_step.j3
      refine Two.bindX (h i3 s h5) ?_
      rintro r r' ⟨x, i4, s4, rfl, rfl, h7, h8, h9⟩
      dsimp only
      refine Two.chk (by simp; omega) (by simp; omega) ?_
      refine ih i4 s4 _ h7 (by omega) (by simp; omega) (by omega) ?_
      rw [szAL_snoc]; omega
    cases b with
    | true =>
      refine Two.ite (fun e => by cases e) (fun _ => ?_)
      refine Two.ok ⟨⟨nm, out⟩, i2, s, rfl, rfl, g3, by omega, ?_⟩
      simp only [szS]
      have := g5 rfl
      omega
    | false =>
      refine Two.ite (fun _ => ?_) (fun e => by cases e)
      refine Two.ite (fun _ => ?_) (fun _ => j2 i2 g3 (Int.le_refl _))
      refine Two.bindX (must_two w g3 [44]) ?_
      rintro r r' ⟨i3, rfl, rfl, h5, h6⟩
      exact j2 i3 h5 (by omega)
end
theorem chain_two (w : WL l l') : ∀ (K : Nat),
    (∀ (i d s : Int), In l i d s → 4000 + 4 * (13 - d) ≤ (K : Int) → Two (parse_parser_chain.f K ⟨l, i, d, s⟩) (parse_parser_chain.f K ⟨l', i, d, s⟩) (PSL l l' i d)) ∧
    (∀ (i d s : Int), In l i d s → 4000 + 4 * (13 - d) ≤ (K : Int) + 1 → Two (parse_parser_step.f K ⟨l, i, d, s⟩) (parse_parser_step.f K ⟨l', i, d, s⟩) (PS1 l l' i d)) ∧
    (∀ (i d s : Int), In l i d s → 4000 + 4 * (13 - d) ≤ (K : Int) + 2 → Two (parse_parser_arg.f K ⟨l, i, d, s⟩) (parse_parser_arg.f K ⟨l', i, d, s⟩) (PA l l' i d)) ∧
    (∀ (i d s : Int), In l i d s → 4000 + 4 * (13 - d) ≤ (K : Int) + 3 → Two (parse_parser_child.f K ⟨l, i, d, s⟩) (parse_parser_child.f K ⟨l', i, d, s⟩) (PSL l l' i d)) := by
  intro K
  induction K with
  | zero =>
    refine ⟨fun i d s h hK => ?_, fun i d s h hK => ?_, fun i d s h hK => ?_, fun i d s h hK => ?_⟩ <;> · have := h.d1; omega
  | succ K ih =>
    obtain ⟨ihc, ihs, iha, ihd⟩ := ih
    refine ⟨fun i d s h hK => ?_, fun i d s h hK => ?_, fun i d s h hK => ?_, fun i d s h hK => ?_⟩
    · rw [parse_parser_chain.f, parse_parser_chain.f]
      unfold parse_parser_chain.b
      refine Two.bindX (ihs i d s h (by omega)) ?_
      rintro r r' ⟨x, i2, s2, rfl, rfl, h2, h3, h4⟩
      have := w.few
      have := h.d1
      have := h.i0
      exact chain_l1 K w (fun i s h => ihs i d s h (by omega)) i K i2 s2 [x] h2 (by omega) (by simp; omega) h3 (by simp only [szSL]; omega)
    · rw [parse_parser_step.f, parse_parser_step.f]
      unfold parse_parser_step.b
      dsimp only
      have h0 := h.s0
      have h1 := h.s1
      rw [W_in (x := s + 1) (by omega) (by omega)]
      refine Two.ite (fun _ => stopX w h.i0 h.i1 3) (fun e => ?_)
      simp only [decide_eq_false_iff_not] at e
      have h' : In l i d (s + 1) := ⟨h.i0, h.i1, h.d0, h.d1, by omega, by omega⟩
      unfold parse_parser_step.j1
      refine Two.bindX (name_two w h') ?_
      rintro r r' ⟨x, i2, rfl, rfl, h2, h3⟩
      refine Two.bindX (must_two w h2 [40]) ?_
      rintro r r' ⟨i3, rfl, rfl, h4, h5⟩
      have := w.few
      have := h.d1
      have := h.i0
      exact step_l1 K w (fun i s h => iha i d s h (by omega)) x _ i K i3 (s + 1) [] h4 (by omega) (by simp) (by omega) (by simp only [szAL]; omega)
    · rw [parse_parser_arg.f, parse_parser_arg.f]
      unfold parse_parser_arg.b
      have := w.few
      have hd1 := h.d1
      have hd0 := h.d0
      have := h.i0
      refine Two.bindX ((values_two w K).1 i d s h (by omega)) ?_
      rintro r r' ⟨v, b, i2, rfl, rfl, h2, h3, h4⟩
      dsimp only
      cases b with
      | true =>
        refine Two.ite (fun _ => ?_) (fun e => by cases e)
        obtain ⟨h5, h6⟩ := h4 rfl
        refine Two.ok ⟨_, i2, s, rfl, rfl, h2, h5, ?_⟩
        simp only [szA, szP, szPL, szVL, szSL]
        omega
      | false =>
        refine Two.ite (fun e => by cases e) (fun _ => ?_)
        have j1 : ∀ y, Two (parse_parser_arg.j1 (parse_parser_chain.f K) (parse_parser_step.f K) (parse_parser_arg.f K) (parse_parser_child.f K) K l i2 d s y) (parse_parser_arg.j1 (parse_parser_chain.f K) (parse_parser_step.f K) (parse_parser_arg.f K) (parse_parser_child.f K) K l' i2 d s y) (PA l l' i d) := by
          intro y
          unfold parse_parser_arg.j1
          refine Two.bindX (ihd i2 d s h2 (by omega)) ?_
          rintro r r' ⟨x, i3, s3, rfl, rfl, h5, h6, h7⟩
          refine Two.ok ⟨_, i3, s3, rfl, rfl, h5, by omega, ?_⟩
          simp only [szA, szP, szPL, szVL, szV]
          omega
        simp only [w.k, w.s, w.len]
        refine Two.chk ⟨h2.i0, h2.i1⟩ ⟨h2.i0, h2.i1⟩ ?_
        refine Two.ite (fun e => ?_) (fun _ => j1 _)
        simp only [decide_eq_true_eq] at e
        have h5 := h2.adv w (by rw [e]; decide)
        rw [W1 h2 w.few]
        refine Two.chk ⟨h5.i0, h5.i1⟩ ⟨h5.i0, h5.i1⟩ ?_
        obtain ⟨t, ht⟩ := preds_tot (l.getD i2.toNat default).S
        refine Two.bind ht ht ?_
        refine Two.ite (fun _ => ?_) (fun _ => ?_)
        · refine Two.bindX (pred_two w K i2 d s h2 (by omega)) ?_
          rintro r r' ⟨⟨x, i3, rfl, rfl, h6, h7, h8⟩, h9⟩
          have h9 : i2 < i3 := h9
          refine Two.ok ⟨_, i3, s, rfl, rfl, h6, by omega, ?_⟩
          simp only [szA, szSL, szVL, szV]
          omega
        · refine Two.ite (fun _ => ?_) (fun _ => j1 _)
          refine Two.bindX (name_two w h2) ?_
          rintro r r' ⟨x, i3, rfl, rfl, h6, h7⟩
          refine Two.bind rfl rfl (Two.ok ⟨_, i3, s, rfl, rfl, h6, by omega, ?_⟩)
          simp only [szA, szSL, szVL, szV, szP, szPL]
          omega
    · rw [parse_parser_child.f, parse_parser_child.f]
      unfold parse_parser_child.b
      refine Two.bindX (into_two w h) ?_
      rintro r r' ⟨rfl, rfl, h2⟩
      dsimp only
      simp only [w.k, w.s, w.len]
      have hd0 := h.d0
      have hd1 := h2.d1
      refine Two.chk ⟨h2.i0, h2.i1⟩ ⟨h2.i0, h2.i1⟩ ?_
      refine Two.chk (fun _ => ⟨h2.i0, h2.i1⟩) (fun _ => ⟨h2.i0, h2.i1⟩) ?_
      have j1 : ∀ i2, In l i2 (d + 1) s → i ≤ i2 → Two (parse_parser_child.j1 (parse_parser_chain.f K) (parse_parser_step.f K) (parse_parser_arg.f K) (parse_parser_child.f K) K l i2 (d + 1) s 1) (parse_parser_child.j1 (parse_parser_chain.f K) (parse_parser_step.f K) (parse_parser_arg.f K) (parse_parser_child.f K) K l' i2 (d + 1) s 1) (PSL l l' i d) := by
        intro i2 h3 h4
        unfold parse_parser_child.j1
        refine Two.bindX (ihc i2 (d + 1) s h3 (by omega)) ?_
        rintro r r' ⟨x, i3, s3, rfl, rfl, h5, h6, h7⟩
        dsimp only
        rw [decr_one hd0 (by omega)]
        exact Two.ok ⟨x, i3, s3, rfl, rfl, ⟨h5.i0, h5.i1, hd0, h.d1, h5.s0, h5.s1⟩, by omega, by omega⟩
      refine Two.ite (fun e => ?_) (fun _ => j1 i h2 (Int.le_refl _))
      rw [Bool.and_eq_true, decide_eq_true_eq, decide_eq_true_eq] at e
      have h3 := h2.adv w (by rw [e.1]; decide)
      rw [W1 h2 w.few]
      refine Two.bindX (must_two w h3 [46]) ?_
      rintro r r' ⟨i2, rfl, rfl, h4, h5⟩
      exact j1 i2 h4 (by omega)
/-- The whole. -/
theorem all_two (w : WL l l') (hl : 0 < l.length) (K : Nat) (hK : 5000 ≤ K) : Two (parse_parser_all.f K ⟨l, 0, 0, 0⟩) (parse_parser_all.f K ⟨l', 0, 0, 0⟩) (fun r r' => r = r' ∧ r.2.2 = 0 ∧ (szSL r.1 : Int) ≤ 10000) := by
  have h : In l 0 0 0 := ⟨by omega, by omega, by omega, by omega, by omega, by omega⟩
  unfold parse_parser_all.f
  refine Two.bindX (name_two w h) ?_
  rintro r r' ⟨x, i2, rfl, rfl, h2, h3⟩
  refine Two.ite (fun _ => stopX w (by omega) (by omega) 120) (fun _ => ?_)
  unfold parse_parser_all.j1
  refine Two.bindX (must_two w h2 [46]) ?_
  rintro r r' ⟨i3, rfl, rfl, h4, h5⟩
  refine Two.bindX ((chain_two w K).1 i3 0 0 h4 (by omega)) ?_
  rintro r r' ⟨v, i4, s4, rfl, rfl, h6, h7, h8⟩
  dsimp only
  simp only [w.k, w.len]
  refine Two.chk ⟨h6.i0, h6.i1⟩ ⟨h6.i0, h6.i1⟩ ?_
  refine Two.ite (fun _ => stopX w h6.i0 h6.i1 120) (fun _ => ?_)
  unfold parse_parser_all.j2
  have := w.few
  have := h6.i1
  exact Two.ok ⟨rfl, rfl, by show (szSL v : Int) ≤ 10000; omega⟩
end
end Go.Proofs.Ytbjbgodcenopnaa

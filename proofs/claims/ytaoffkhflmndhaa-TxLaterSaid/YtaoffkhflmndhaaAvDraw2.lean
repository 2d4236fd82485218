/- A region that draws its order, with operations that turn what is owned: these go one behind the other by edges; between them operations that turn nothing come in whatever order. -/
import Derived.Test.YtaoffkhflmndhaaAvDraw
namespace Go.Proofs.Ytaoffkhflmndhaa.FW
variable {Df : List Deferred}
open Go.RowKit
set_option linter.unusedVariables false
set_option linter.unusedSimpArgs false
abbrev Ent := Nat × Ch × AV
section
variable {P : Program} {M : Nat → Prop} {w0 : Bs} {n : Nat} {I : List It} {Q Q0 : Exit → Act → World → Prop}
/-- What is asked of the operations of a phase: of those that are marked a walk, in the text's order. -/
def hopsG (P : Program) (ops : List Oper) (M : Nat → Prop) (w0 : Bs) (Df : List Deferred) (n : Nat) (I : List It) : List Bool → List Oper → List Ent → St → Prop
  | m :: ms, o :: r, e :: E, σ => ((o.dst = some e.1 ∨ (o.dst = none ∧ e = (n, [], .lit undef) ∧ m = false)) ∧ (e.2.1.all fun p => (looks ops o).any (Nat.beq p.1)) = true ∧ (m = true → Hop P ops M w0 Df n I σ o e.1 e.2.1 e.2.2)) ∧ hopsG P ops M w0 Df n I ms r E (e :: σ)
  | [], [], [], σ => True
  | _, _, _, σ => False
def agr : List Bool → List Ent → List Ent → Prop
  | true :: ms, x :: l, x' :: l' => x' = x ∧ agr ms l l'
  | false :: ms, _ :: l, _ :: l' => agr ms l l'
  | [], [], [] => True
  | _, _, _ => False
/-- What an operation that turns what is owned does, whatever else the slots hold. -/
def Heff (P : Program) (M : Nat → Prop) (w0 : Bs) (Df : List Deferred) (Q0 : Exit → Act → World → Prop) (n : Nat) (o : Oper) (σ1 : St) (I : List It) (d : Nat) (N : List It → AV → Prop) : Prop :=
  ∀ (σD : St) (a : Act) (w : World) (ops : Array Oper) (Q : Exit → Act → World → Prop), S M w0 a w n I (σ1 ++ σD) Df → chFree (σ1 ++ σD) d = true →
    (∀ I' y a' w', N I' y → S M w0 a' w' n I' ((d, [], y) :: (σ1 ++ σD)) Df → wpList P ops Q [] a' w') → (∀ e a w, e ≠ .normal → Q0 e a w → Q e a w) → wpList P ops Q [o] a w
/-- The same of one that has no slot of its own. -/
def Heff0 (P : Program) (M : Nat → Prop) (w0 : Bs) (Df : List Deferred) (Q0 : Exit → Act → World → Prop) (n : Nat) (o : Oper) (σ1 : St) (I : List It) (N : List It → Prop) : Prop :=
  ∀ (σD : St) (a : Act) (w : World) (ops : Array Oper) (Q : Exit → Act → World → Prop), S M w0 a w n I (σ1 ++ σD) Df →
    (∀ I' a' w', N I' → S M w0 a' w' n I' (σ1 ++ σD) Df → wpList P ops Q [] a' w') → (∀ e a w, e ≠ .normal → Q0 e a w → Q e a w) → wpList P ops Q [o] a w
/-- The same of one under a guard. -/
def HeffG (P : Program) (M : Nat → Prop) (w0 : Bs) (Df : List Deferred) (Q0 : Exit → Act → World → Prop) (n : Nat) (ops : List Oper) (o : Oper) (σ1 : St) (I : List It) (d : Nat) (ch : Ch) (N : List It → AV → Prop) : Prop :=
  ∀ (σD : St) (a : Act) (w : World) (Q : Exit → Act → World → Prop), S M w0 a w n I (σ1 ++ σD) Df → chFree (σ1 ++ σD) d = true →
    (∀ I' y a' w', N I' y → S M w0 a' w' n I' ((d, ch, y) :: (σ1 ++ σD)) Df → wpList P ops.toArray Q [] a' w') → (∀ e a w, e ≠ .normal → Q0 e a w → Q e a w) → wpList P ops.toArray Q [o] a w
/-- The orders in which the operations that turn what is owned may come: which one is next, or one of some. With each stand the operations of which a walk is asked ahead of it, and those whose entries stay. -/
inductive Pt where
  | leaf (need : List Bool)
  | next (nd : List Bool) (e : Nat) (lv : List Bool) (t : Pt)
  | or (t u : Pt)
def Pt.rems : Pt → List Nat
  | .leaf _ => []
  | .next _ e _ t => e :: t.rems
  | .or t _ => t.rems
def Pt.heads : Pt → List Nat
  | .leaf _ => []
  | .next _ e _ _ => [e]
  | .or t u => t.heads ++ u.heads
def Pt.need : Pt → List Bool
  | .leaf nd => nd
  | .next nd _ _ _ => nd
  | .or t _ => t.need
def PhT (P : Program) (ops : List Oper) (M : Nat → Prop) (w0 : Bs) (Df : List Deferred) (Q0 : Exit → Act → World → Prop) (n : Nat) (K : List It → St → Prop) (σ0 : St) : Pt → List Ent → List It → Prop
  | .leaf need, E, I => hopsG P ops M w0 Df n I need ops E σ0 ∧ K I (stD (fun _ => true) 0 E σ0)
  | .or t u, E, I => PhT P ops M w0 Df Q0 n K σ0 t E I ∧ PhT P ops M w0 Df Q0 n K σ0 u E I
  | .next nd e lv rem, E, I => hopsG P ops M w0 Df n I nd ops E σ0 ∧ ((∃ oe d, ops[e]? = some oe ∧ oe.dst = some d ∧ oe.guard = none ∧ Nat.blt d n = true ∧ chFree (stD (fun i => decide (i < e)) 0 E σ0) d = true ∧
      Heff P M w0 Df Q0 n oe (only (looks ops oe) (stD (fun i => decide (i < e)) 0 E σ0)) I d fun I' y => ∃ E', agr lv E E' ∧ E'[e]? = some (d, [], y) ∧ PhT P ops M w0 Df Q0 n K σ0 rem E' I') ∨
      (∃ oe, ops[e]? = some oe ∧ oe.dst = none ∧ oe.guard = none ∧
      Heff0 P M w0 Df Q0 n oe (only (looks ops oe) (stD (fun i => decide (i < e)) 0 E σ0)) I fun I' => ∃ E', agr lv E E' ∧ E'[e]? = some (n, [], .lit undef) ∧ PhT P ops M w0 Df Q0 n K σ0 rem E' I') ∨
      ∃ oe d ch, ops[e]? = some oe ∧ oe.dst = some d ∧ Nat.blt d n = true ∧ chFree (stD (fun i => decide (i < e)) 0 E σ0) d = true ∧
      HeffG P M w0 Df Q0 n ops oe (only (looks ops oe) (stD (fun i => decide (i < e)) 0 E σ0)) I d ch fun I' y => ∃ E', agr lv E E' ∧ E'[e]? = some (d, ch, y) ∧ PhT P ops M w0 Df Q0 n K σ0 rem E' I')
/-- The slots that are looked at are there. -/
def slotsOk (n : Nat) (ops : List Oper) : Bool := ops.all fun o => (looks ops o).all (Nat.blt · n) && (match o.dst with | some d => Nat.blt d n | none => true)
def mayRun (an : List Nat) (rem : List Nat) (j : Nat) : Bool := !(rem.any fun e => Nat.beq e j || (an.getD j 0).testBit e)
def maskOk (ops : List Oper) (an : List Nat) (done rem : List Nat) (nd : List Bool) : Bool :=
  (List.range ops.length).all fun j => !(mayRun an rem j && !(done.any fun e => Nat.beq e j || (an.getD e 0).testBit j)) || nd.getD j false
def liveOk (ops : List Oper) (an : List Nat) (rem : List Nat) (lv : List Bool) : Bool :=
  (List.range ops.length).all fun j => !(mayRun an rem j) || lv.getD j false
def lvlOk (an : List Nat) (t : Pt) : Bool := t.rems.all fun i => t.heads.any fun h => Nat.beq h i || (an.getD i 0).testBit h
def sameSet (l l' : List Nat) : Bool := (l.all fun i => l'.any (Nat.beq i)) && (l'.all fun i => l.any (Nat.beq i))
def subOk (ops : List Oper) (an : List Nat) : List Nat → Pt → Bool
  | done, .leaf nd => maskOk ops an done [] nd
  | done, .next nd e lv t => maskOk ops an done (e :: t.rems) nd && liveOk ops an (e :: t.rems) lv && (lvlOk an t && !(t.rems.any (Nat.beq e))) && subOk ops an (e :: done) t
  | done, .or t u => subOk ops an done t && subOk ops an done u && sameSet t.rems u.rems
def ptOk (ops : List Oper) (an : List Nat) (t : Pt) : Bool := lvlOk an t && subOk ops an [] t
theorem sameSet_mem {l l' : List Nat} (h : sameSet l l' = true) (i : Nat) : i ∈ l ↔ i ∈ l' := by
  unfold sameSet at h
  rw [Bool.and_eq_true, List.all_eq_true, List.all_eq_true] at h
  constructor
  · intro hi
    obtain ⟨j, hj, hb⟩ := List.any_eq_true.1 (h.1 i hi)
    rw [Nat.eq_of_beq_eq_true hb]; exact hj
  · intro hi
    obtain ⟨j, hj, hb⟩ := List.any_eq_true.1 (h.2 i hi)
    rw [Nat.eq_of_beq_eq_true hb]; exact hj
theorem PhT.hops {ops : List Oper} {K : List It → St → Prop} {σ0 : St} {E : List Ent} : ∀ {t : Pt}, PhT P ops M w0 Df Q0 n K σ0 t E I → hopsG P ops M w0 Df n I t.need ops E σ0
  | .leaf _, h => h.1
  | .next _ _ _ _, h => h.1
  | .or t u, h => PhT.hops (t := t) h.1
theorem subOk_mask {ops : List Oper} {an : List Nat} {done : List Nat} : ∀ {t : Pt}, subOk ops an done t = true → maskOk ops an done t.rems t.need = true
  | .leaf _, h => h
  | .next _ _ _ _, h => by simp only [subOk, Bool.and_eq_true] at h; exact h.1.1.1
  | .or t u, h => by simp only [subOk, Bool.and_eq_true] at h; exact subOk_mask (t := t) h.1.1
theorem heads_rems {ops : List Oper} {an : List Nat} {done : List Nat} : ∀ {t : Pt}, subOk ops an done t = true → ∀ i ∈ t.heads, i ∈ t.rems
  | .leaf _, _, i, hi => by simp [Pt.heads] at hi
  | .next _ _ _ _, _, i, hi => by simp [Pt.heads] at hi; simp [Pt.rems, hi]
  | .or t u, h, i, hi => by
    simp only [subOk, Bool.and_eq_true] at h
    simp only [Pt.heads, List.mem_append] at hi
    rcases hi with hi | hi
    · exact heads_rems (t := t) h.1.1 i hi
    · exact (sameSet_mem h.2 i).2 (heads_rems (t := u) h.1.2 i hi)
theorem heads_some : ∀ {t : Pt}, t.rems ≠ [] → ∃ i, i ∈ t.heads
  | .leaf _, h => absurd rfl h
  | .next _ e _ _, _ => ⟨e, by simp [Pt.heads]⟩
  | .or t u, h => by
    obtain ⟨i, hi⟩ := heads_some (t := t) h
    exact ⟨i, by simp [Pt.heads, hi]⟩
theorem PhT.sel {ops : List Oper} {K : List It → St → Prop} {σ0 : St} {E : List Ent} {an : List Nat} {done : List Nat} {i : Nat} : ∀ {t : Pt}, subOk ops an done t = true → i ∈ t.heads → PhT P ops M w0 Df Q0 n K σ0 t E I →
    ∃ nd lv u, PhT P ops M w0 Df Q0 n K σ0 (.next nd i lv u) E I ∧ subOk ops an done (.next nd i lv u) = true ∧ ∀ j, j ∈ t.rems ↔ j ∈ (Pt.next nd i lv u).rems
  | .leaf _, _, hi, _ => by simp [Pt.heads] at hi
  | .next nd e lv u, h, hi, hW => by
    simp only [Pt.heads, List.mem_singleton] at hi
    subst hi
    exact ⟨nd, lv, u, hW, h, fun j => Iff.rfl⟩
  | .or t u, h, hi, hW => by
    simp only [subOk, Bool.and_eq_true] at h
    simp only [Pt.heads, List.mem_append] at hi
    rcases hi with hi | hi
    · exact PhT.sel (t := t) h.1.1 hi hW.1
    · obtain ⟨nd, lv, v, h1, h2, h3⟩ := PhT.sel (t := u) h.1.2 hi hW.2
      exact ⟨nd, lv, v, h1, h2, fun j => (sameSet_mem h.2 j).trans (h3 j)⟩
theorem PhT.bottom {ops : List Oper} {K : List It → St → Prop} {σ0 : St} {E : List Ent} : ∀ {t : Pt}, t.rems = [] → PhT P ops M w0 Df Q0 n K σ0 t E I → K I (stD (fun _ => true) 0 E σ0)
  | .leaf _, _, h => h.2
  | .next _ _ _ _, h, _ => by simp [Pt.rems] at h
  | .or t u, h, hW => PhT.bottom (t := t) h hW.1

theorem hopsG_list {ops : List Oper} : ∀ {ms : List Bool} {l : List Oper} {E : List Ent} {σ : St}, hopsG P ops M w0 Df n I ms l E σ → E.length = l.length ∧
    ∀ (j : Nat) (o : Oper), l[j]? = some o → ∃ e, E[j]? = some e ∧ (o.dst = some e.1 ∨ (o.dst = none ∧ e = (n, [], .lit undef) ∧ ms.getD j false = false)) ∧ (e.2.1.all fun p => (looks ops o).any (Nat.beq p.1)) = true ∧ (ms.getD j false = true → Hop P ops M w0 Df n I (stD (fun i => decide (i < j)) 0 E σ) o e.1 e.2.1 e.2.2)
  | [], [], [], σ, _ => ⟨rfl, fun j o h => by simp at h⟩
  | m :: ms, o :: r, e :: E, σ, h => by
    obtain ⟨⟨h1, h2, h3⟩, h4⟩ := h
    obtain ⟨hl, hE⟩ := hopsG_list h4
    refine ⟨by simp [hl], ?_⟩
    intro j o' ho'
    cases j with
    | zero =>
      simp only [List.getElem?_cons_zero, Option.some.injEq] at ho'
      subst ho'
      refine ⟨e, rfl, by simpa using h1, h2, fun hm => ?_⟩
      have : stD (fun i => decide (i < 0)) 0 (e :: E) σ = σ := by
        rw [show (fun i => decide (i < 0)) = (fun _ : Nat => false) from by funext i; simp]
        exact stD_false _ _ _
      rw [this]
      exact h3 (by simpa using hm)
    | succ j =>
      obtain ⟨e', g1, g2, g3, g4⟩ := hE j o' (by simpa using ho')
      refine ⟨e', by simpa using g1, by simpa using g2, g3, fun hm => ?_⟩
      have : stD (fun i => decide (i < j + 1)) 0 (e :: E) σ = stD (fun i => decide (i < j)) 0 E (e :: σ) := by
        simp only [stD]
        rw [stD_shift]
        simp only [Nat.zero_lt_succ, decide_true, cond_true, Nat.add_lt_add_iff_right]
      rw [this]
      exact g4 (by simpa using hm)
  | [], o :: r, _, σ, h => by simp [hopsG] at h
  | [], [], e :: E, σ, h => by simp [hopsG] at h
  | m :: ms, [], _, σ, h => by simp [hopsG] at h
  | m :: ms, o :: r, [], σ, h => by simp [hopsG] at h
theorem agr_at : ∀ {ms : List Bool} {E E' : List Ent}, agr ms E E' → E'.length = E.length ∧ ∀ j, ms.getD j false = true → E'[j]? = E[j]?
  | [], [], [], _ => ⟨rfl, fun j h => by simp at h⟩
  | true :: ms, x :: l, x' :: l', h => by
    obtain ⟨rfl, h⟩ := h
    obtain ⟨h1, h2⟩ := agr_at h
    refine ⟨by simp [h1], fun j hj => ?_⟩
    cases j with
    | zero => rfl
    | succ j => simpa using h2 j (by simpa using hj)
  | false :: ms, x :: l, x' :: l', h => by
    obtain ⟨h1, h2⟩ := agr_at (ms := ms) h
    refine ⟨by simp [h1], fun j hj => ?_⟩
    cases j with
    | zero => simp at hj
    | succ j => simpa using h2 j (by simpa using hj)
  | [], [], _ :: _, h => by simp [agr] at h
  | [], _ :: _, _, h => by simp [agr] at h
  | true :: ms, [], _, h => by simp [agr] at h
  | false :: ms, [], _, h => by simp [agr] at h
  | true :: ms, _ :: _, [], h => by simp [agr] at h
  | false :: ms, _ :: _, [], h => by simp [agr] at h
theorem look_append {σ1 σ2 : St} {t : Nat} : look (σ1 ++ σ2) t = match look σ1 t with | some x => some x | none => look σ2 t := by
  induction σ1 with
  | nil => rfl
  | cons e r ih =>
    rw [List.cons_append]
    simp only [look]
    cases Nat.beq e.1 t with
    | true => rfl
    | false => simpa using ih
theorem list_wp1 {o : Oper} {ops : Array Oper} {K : Act → World → Prop} {a : Act} {w : World} (hw : Region.wanted o (yielded ops a.tmps) = true) (h : ∀ Q' : Exit → Act → World → Prop, (∀ a w, K a w → wpList P ops Q' [] a w) → (∀ e a w, e ≠ .normal → Q e a w → Q' e a w) → wpList P ops Q' [o] a w) : o.wp P a w K Q ∨ (o.asks P a w ∧ LetsOut Q) := by
  have h1 := h (fun e a w => (e = .normal ∧ K a w) ∨ (e ≠ .normal ∧ Q e a w)) (fun a w hk => .inl ⟨rfl, hk⟩) (fun e a w he hq => .inr ⟨he, hq⟩)
  unfold wpList at h1
  rw [if_pos hw] at h1
  have hn : ∀ (a : Act) (w : World), wpList P ops (fun e a w => (e = .normal ∧ K a w) ∨ (e ≠ .normal ∧ Q e a w)) [] a w → K a w := by
    intro a w h
    rcases h with ⟨_, h⟩ | ⟨h, _⟩
    · exact h
    · exact absurd rfl h
  have hlo : LetsOut (fun e a w => (e = .normal ∧ K a w) ∨ (e ≠ .normal ∧ Q e a w)) → LetsOut Q := by
    rintro ⟨a, w, h⟩
    rcases h with ⟨h, _⟩ | ⟨_, h⟩
    · cases h
    · exact ⟨a, w, h⟩
  rcases h1 with h1 | ⟨h1, h2⟩
  · left
    unfold Oper.wp at *
    generalize (execOp a.eval o).run P w = r at *
    cases r with
    | ok x w' =>
      cases x with
      | value v => exact hn _ _ h1
      | skip => exact hn _ _ h1
      | defer x => exact hn _ _ h1
      | enter f args =>
        refine h1.mono ?_
        rintro e w'' he
        cases e with
        | returned v => exact hn _ _ he
        | panicked chain =>
          rcases he with ⟨h, _⟩ | ⟨_, h⟩
          · cases h
          · exact h
        | outgrown => exact hlo he
      | row row args => exact h1.mono fun v w'' h => hn _ _ h
      | _ => exact h1.elim
    | halt x w' =>
      cases x with
      | panic v =>
        rcases h1 with ⟨h, _⟩ | ⟨_, h⟩
        · cases h
        · exact h
      | _ => exact h1.elim
  · exact .inr ⟨h1, hlo h2⟩
theorem list_wp {o : Oper} {ops : Array Oper} {K : Act → World → Prop} {a : Act} {w : World} (hg : o.guard = none) (h : ∀ Q' : Exit → Act → World → Prop, (∀ a w, K a w → wpList P ops Q' [] a w) → (∀ e a w, e ≠ .normal → Q e a w → Q' e a w) → wpList P ops Q' [o] a w) : o.wp P a w K Q ∨ (o.asks P a w ∧ LetsOut Q) :=
  list_wp1 (by simp [Region.wanted, hg]) h
theorem list_wpG {o : Oper} {ops : Array Oper} {K : Act → World → Prop} {a : Act} {w : World} (h : ∀ Q' : Exit → Act → World → Prop, (∀ a w, K a w → wpList P ops Q' [] a w) → (∀ e a w, e ≠ .normal → Q e a w → Q' e a w) → wpList P ops Q' [o] a w) : if Region.wanted o (yielded ops a.tmps) = true then (o.wp P a w K Q ∨ (o.asks P a w ∧ LetsOut Q)) else K (a.put o.dst undef) w := by
  by_cases hw : Region.wanted o (yielded ops a.tmps) = true
  · rw [if_pos hw]; exact list_wp1 hw h
  · rw [if_neg hw]
    have h1 := h (fun e a w => (e = .normal ∧ K a w) ∨ (e ≠ .normal ∧ Q e a w)) (fun a w hk => .inl ⟨rfl, hk⟩) (fun e a w he hq => .inr ⟨he, hq⟩)
    unfold wpList at h1
    rw [if_neg hw] at h1
    rcases h1 with ⟨_, h⟩ | ⟨h, _⟩
    · exact h
    · exact absurd rfl h
theorem stD_of_agree {D : Nat → Bool} {E E' : List Ent} {σ : St} : ∀ (k : Nat) (l l' : List Ent) (σ : St), l'.length = l.length → (∀ j, D (k + j) = true → l'[j]? = l[j]?) → stD D k l' σ = stD D k l σ
  | k, [], [], σ, _, _ => rfl
  | k, x :: l, x' :: l', σ, hl, h => by
    simp only [stD]
    have h0 := h 0
    simp only [Nat.add_zero, List.getElem?_cons_zero, Option.some.injEq] at h0
    have hr := stD_of_agree (D := D) (E := E) (E' := E') (σ := σ) (k + 1) l l' (bif D k then x' :: σ else σ) (by simpa using hl) fun j hj => by
      have := h (j + 1) (by rw [show k + (j + 1) = k + 1 + j from by omega]; exact hj)
      simpa using this
    rw [hr]
    cases hD : D k with
    | false => rfl
    | true => rw [h0 hD]
  | k, [], _ :: _, σ, hl, _ => by simp at hl
  | k, _ :: _, [], σ, hl, _ => by simp at hl
theorem look_prepend {σ1 σD : St} {t : Nat} (h : ∀ x, look σ1 t = some x → look σD t = some x) : look (σ1 ++ σD) t = look σD t := by
  rw [look_append]
  cases hl : look σ1 t with
  | none => rfl
  | some x => exact (h x hl).symm
theorem chFree_append {σ1 σ2 : St} {d : Nat} (h1 : chFree σ1 d = true) (h2 : chFree σ2 d = true) : chFree (σ1 ++ σ2) d = true := by
  unfold chFree at *
  rw [List.all_append, h1, h2]; rfl
theorem chFree_only {l : List Nat} {σ : St} {d : Nat} (h : chFree σ d = true) : chFree (only l σ) d = true := by
  unfold chFree only at *
  rw [List.all_eq_true] at *
  intro e he
  exact h e (List.mem_filter.1 he).1
theorem wpAny_eff {ops : List Oper} {K : List It → St → Prop} {σ0 : St} (hord : ordOk ops = true) (hslots : slotsOk n ops = true) (hQ : ∀ I σ a w, K I σ → S M w0 a w n I σ Df → Q .normal a w) :
    ∀ (fuel : Nat) (done : List Nat) (ph : Pt) (E : List Ent) (I : List It) (listed : Array Bool) (a : Act) (w : World), lvlOk (ancs ops) ph = true → subOk ops (ancs ops) done ph = true → listed.size = ops.length → listed.toList.count false = fuel →
      (∀ j o, ops[j]? = some o → listed.getD j false = true → ∀ e ∈ binding o, listed.getD e false = true) → (∀ e ∈ done, listed.getD e false = true) → (∀ e ∈ ph.rems, listed.getD e false = false) →
      PhT P ops M w0 Df Q n K σ0 ph E I → S M w0 a w n I (stD (fun j => listed.getD j false) 0 E σ0) Df → wpAny P .any ops.toArray Q fuel listed a w := by
  intro fuel
  have noneLeft : ∀ (listed : Array Bool), listed.size = ops.length → listed.toList.count false = 0 → (∀ j, j < ops.length → listed.getD j false = true) := by
    intro listed hs hc j hj
    have h1 : false ∉ listed.toList := List.count_eq_zero.1 hc
    have h2 : listed[j]'(by omega) ∈ listed.toList := by
      rw [Array.mem_toList_iff]; exact Array.getElem_mem _
    cases hb : listed[j]'(by omega) with
    | true => simp [Array.getD_eq_getD_getElem?, hs, hj, hb]
    | false => rw [hb] at h2; exact absurd h2 h1
  have hready : ∀ (listed : Array Bool), listed.size = ops.length → (∃ j, j < ops.length ∧ listed.getD j false = false) → Region.ready .any ops.toArray listed ≠ [] := by
    intro listed hs hex hnil
    have : ∀ j, j < ops.length → listed.getD j false = true := by
      intro j
      induction j using Nat.strongRecOn with
      | _ j ih =>
        intro hj
        cases hb : listed.getD j false with
        | true => rfl
        | false =>
          exfalso
          have hm : j ∈ Region.ready .any ops.toArray listed := by
            rw [mem_ready]
            refine ⟨?_, ops[j], by simp [hj], ?_⟩
            · have hlt : j < listed.size := by omega
              simpa [Array.getD_eq_getD_getElem?, hlt] using hb
            · intro e he hbnd
              have hmem : e.on ∈ binding ops[j] := by
                unfold binding
                refine List.mem_map.2 ⟨e, List.mem_filter.2 ⟨by simpa using he, hbnd⟩, rfl⟩
              have hlt := (ordFrom_at (k := 0) hord (j := j) (o := ops[j]) (List.getElem?_eq_getElem hj)).1 _ hmem
              rw [Nat.zero_add] at hlt
              exact ih e.on hlt (by omega)
          rw [hnil] at hm
          cases hm
    obtain ⟨j, hj, hf⟩ := hex
    rw [this j hj] at hf
    cases hf
  have hlk : ∀ (j : Nat) (o : Oper), ops[j]? = some o → ∀ t ∈ looks ops o, t < n := by
    intro j o ho t ht
    unfold slotsOk at hslots
    rw [List.all_eq_true] at hslots
    have h := hslots o (List.mem_of_getElem? ho)
    rw [Bool.and_eq_true, List.all_eq_true] at h
    exact Nat.le_of_ble_eq_true (h.1 t ht)
  have hdl : ∀ (j : Nat) (o : Oper) (d : Nat), ops[j]? = some o → o.dst = some d → d < n := by
    intro j o d ho hd
    unfold slotsOk at hslots
    rw [List.all_eq_true] at hslots
    have h := hslots o (List.mem_of_getElem? ho)
    rw [Bool.and_eq_true, hd] at h
    exact Nat.le_of_ble_eq_true h.2
  induction fuel with
  | zero =>
    intro done ph E I listed a w hlv hph hs hc hcl hdone hrem hW hk
    have hall := noneLeft listed hs hc
    have hHE := hW.hops
    obtain ⟨hlen, _⟩ := hopsG_list hHE
    have hnil : ph.rems = [] := by
      false_or_by_contra
      rename_i hne
      obtain ⟨e, he⟩ := heads_some hne
      have h1 := hrem e (heads_rems hph e he)
      obtain ⟨nd, lv, u, hW', _, _⟩ := hW.sel hph he
      obtain ⟨_, ⟨oe, d, ho, _⟩ | ⟨oe, ho, _⟩ | ⟨oe, d, ch, ho, _⟩⟩ := hW'
      · rw [hall e (List.getElem?_eq_some_iff.1 ho).1] at h1
        cases h1
      · rw [hall e (List.getElem?_eq_some_iff.1 ho).1] at h1
        cases h1
      · rw [hall e (List.getElem?_eq_some_iff.1 ho).1] at h1
        cases h1
    refine ⟨?_, hQ I _ a w (hW.bottom hnil) ?_⟩
    · apply List.eq_nil_iff_forall_not_mem.2
      intro j hj
      rw [mem_ready] at hj
      obtain ⟨h0, o, ho, _⟩ := hj
      have hlt : j < ops.length := by simpa using (Array.getElem?_eq_some_iff.1 ho).1
      have h1 := hall j hlt
      have hlt' : j < listed.size := by omega
      simp [Array.getD_eq_getD_getElem?, hlt'] at h0 h1
      rw [h0] at h1; cases h1
    · rw [stD_congr E 0 σ0 (D' := fun j => listed.getD j false) fun j hj => by simpa using (hall j (by omega)).symm]
      exact hk
  | succ fuel ih =>
    intro done ph E I listed a w hlv hph hs hc hcl hdone hrem hW hk
    have hHE := hW.hops
    obtain ⟨hlen, hE⟩ := hopsG_list hHE
    have hmask : maskOk ops (ancs ops) done ph.rems ph.need = true := subOk_mask hph
    have hopE : ∀ (j : Nat) (e : Ent), E[j]? = some e → ∃ o, ops[j]? = some o ∧ (o.dst = some e.1 ∨ (o.dst = none ∧ e = (n, [], .lit undef))) ∧ (e.2.1.all fun p => (looks ops o).any (Nat.beq p.1)) = true := by
      intro j e he
      have hj : j < ops.length := by rw [← hlen]; exact (List.getElem?_eq_some_iff.1 he).1
      obtain ⟨e', h1, h2, h3, _⟩ := hE j ops[j] (List.getElem?_eq_getElem hj)
      rw [h1] at he
      injection he with he
      subst he
      exact ⟨ops[j], List.getElem?_eq_getElem hj, h2.imp id (fun h => ⟨h.1, h.2.1⟩), h3⟩
    refine ⟨fun hnil => ?_, fun i hi => ?_⟩
    · exfalso
      refine hready listed hs ?_ hnil
      false_or_by_contra
      rename_i hno
      have : listed.toList.count false = 0 := by
        rw [List.count_eq_zero]
        intro hm
        obtain ⟨j, hj⟩ := List.mem_iff_getElem?.1 hm
        have hlt : j < listed.size := by
          have := (List.getElem?_eq_some_iff.1 hj).1; simpa using this
        refine hno ⟨j, by omega, ?_⟩
        have : listed[j]? = some false := by simpa using hj
        simp [Array.getD_eq_getD_getElem?, this]
      omega
    · rw [mem_ready] at hi
      obtain ⟨hi0, o, ho, hedges⟩ := hi
      have ho' : ops[i]? = some o := by simpa using ho
      have hilt : i < ops.length := (List.getElem?_eq_some_iff.1 ho').1
      have hilt' : i < listed.size := by omega
      have hiF : listed.getD i false = false := by simpa [Array.getD_eq_getD_getElem?, hilt'] using hi0
      obtain ⟨⟨d, c, y⟩, hEi, hdst0, hcl', hop0⟩ := hE i o ho'
      -- the edges are listed
      have hed : ∀ e ∈ binding o, listed.getD e false = true := by
        intro e he
        unfold binding at he
        obtain ⟨x, hx, rfl⟩ := List.mem_map.1 he
        obtain ⟨h1, h2⟩ := List.mem_filter.1 hx
        exact hedges x (by simpa using h1) h2
      have hanc : ∀ j, ((ancs ops).getD i 0).testBit j = true → listed.getD j false = true ∨ j = i := by
        refine closed_ancs (ops := ops) (D := fun k => listed.getD k false = true ∨ k = i) ?_ i o ho' (.inr rfl)
        intro j' o' ho'' hD e he
        rcases hD with hD | rfl
        · exact .inl (hcl j' o' ho'' hD e he)
        · rw [ho'] at ho''; injection ho'' with ho''; subst ho''
          exact .inl (hed e he)
      have hancL : ∀ j, listed.getD j false = true → ∀ k, ((ancs ops).getD j 0).testBit k = true → listed.getD k false = true := by
        intro j hj
        by_cases hlt : j < ops.length
        · exact closed_ancs (ops := ops) (D := fun k => listed.getD k false = true) (fun j' o' ho'' hD e he => hcl j' o' ho'' hD e he) j ops[j] (List.getElem?_eq_getElem hlt) hj
        · intro k hk'
          exfalso
          rw [Array.getD_eq_getD_getElem?, Array.getElem?_eq_none (by omega)] at hj
          cases hj
      have hordi := ordFrom_at (k := 0) hord (j := i) (o := o) ho'
      simp only [Nat.zero_add] at hordi
      -- what clashes with it
      have hclash : ∀ (j : Nat) (oj : Oper), ops[j]? = some oj → j ≠ i → clash ops oj o = true → clash ops o oj = true → listed.getD j false = decide (j < i) := by
        intro j oj hoj hne hc1 hc2
        rcases Nat.lt_or_ge j i with hlt | hge
        · have hb := hordi.2 j oj hlt hoj hc1
          rcases hanc j hb with h | h
          · rw [h]; simp [hlt]
          · exact absurd h hne
        · have hlt : i < j := by omega
          have hordj := ordFrom_at (k := 0) hord (j := j) (o := oj) hoj
          simp only [Nat.zero_add] at hordj
          have hb := hordj.2 i o hlt ho' hc2
          cases hD : listed.getD j false with
          | false => simp; omega
          | true =>
            have := hancL j hD i hb
            rw [hiF] at this; cases this
      have hA : ∀ (t : Nat), t ∈ looks ops o → ∀ (j : Nat) (e : Ent), E[j]? = some e → e.1 = t → listed.getD j false = decide (j < i) := by
        intro t ht j e he het
        obtain ⟨oj, hoj, hdj, _⟩ := hopE j e he
        by_cases hji : j = i
        · subst hji; rw [hiF]; simp
        · rcases hdj with hdj | ⟨_, rfl⟩
          · refine hclash j oj hoj hji ?_ ?_ <;> · simp [clash, hasD, hdj, het, any_beq.2 ht]
          · have := hlk i o ho' t ht
            dsimp only at het
            omega
      have hB : o.dst = some d → ∀ (j : Nat) (e : Ent), E[j]? = some e → j ≠ i → e.1 = d → listed.getD j false = decide (j < i) := by
        intro hdst j e he hne het
        obtain ⟨oj, hoj, hdj, _⟩ := hopE j e he
        rcases hdj with hdj | ⟨_, rfl⟩
        · refine hclash j oj hoj hne ?_ ?_ <;> · simp [clash, hasD, hdj, het, hdst]
        · have := hdl i o d ho' hdst
          dsimp only at het
          omega
      have hC : o.dst = some d → ∀ (j : Nat) (e : Ent), E[j]? = some e → j ≠ i → cFree e.2.1 d = false → listed.getD j false = decide (j < i) := by
        intro hdst j e he hne hcf
        obtain ⟨oj, hoj, hdj, hcj⟩ := hopE j e he
        have hd : d ∈ looks ops oj := by
          unfold cFree at hcf
          rw [List.all_eq_false] at hcf
          obtain ⟨p, hp, hb⟩ := hcf
          have hpd : p.1 = d := by
            cases hbb : Nat.beq p.1 d with
            | true => exact Nat.eq_of_beq_eq_true hbb
            | false => simp [hbb] at hb
          rw [List.all_eq_true] at hcj
          rw [← hpd]
          exact any_beq.1 (hcj p hp)
        refine hclash j oj hoj hne ?_ ?_ <;> · simp [clash, hasD, hdst, any_beq.2 hd]
      have hlook : ∀ (t : Nat), t ∈ looks ops o → look (stD (fun j => listed.getD j false) 0 E σ0) t = look (stD (fun j => decide (j < i)) 0 E σ0) t := by
        intro t ht
        exact look_stD_congr fun j e he het => hA t ht j e he het
      have hfree : o.dst = some d → chFree (stD (fun j => decide (j < i)) 0 E σ0) d = true → chFree (stD (fun j => listed.getD j false) 0 E σ0) d = true := by
        intro hdst h0
        unfold chFree at h0 ⊢
        rw [List.all_eq_true] at h0 ⊢
        intro e he
        rcases mem_stD E 0 σ0 he with h | ⟨j, hj, hD⟩
        · exact h0 e (stD_mem E 0 σ0 (.inl h))
        · rw [Nat.zero_add] at hD
          by_cases hji : j = i
          · subst hji; rw [hiF] at hD; cases hD
          · cases hcf : cFree e.2.1 d with
            | true => rfl
            | false =>
              have h1 := hC hdst j e hj hji hcf
              rw [hD] at h1
              have := h0 e (stD_mem E 0 σ0 (.inr ⟨j, hj, by rw [Nat.zero_add]; exact h1.symm⟩))
              rw [hcf] at this; exact this
      have hget : ∀ j, (listed.setIfInBounds i true).getD j false = if j = i then true else listed.getD j false := by
        intro j
        simp only [Array.getD_eq_getD_getElem?, Array.getElem?_setIfInBounds]
        by_cases h : i = j
        · subst h; simp [hilt']
        · simp [h, Ne.symm h]
      have hcount' : (listed.setIfInBounds i true).toList.count false = fuel := by
        rw [Array.toList_setIfInBounds]
        have hli : listed.toList[i]? = some false := by
          have : listed[i]? = some false := by
            simp [Array.getElem?_eq_getElem hilt'] 
            simpa [Array.getD_eq_getD_getElem?, hilt'] using hiF
          simpa using this
        have hcount : ∀ (l : List Bool) (i : Nat), l[i]? = some false → (l.set i true).count false + 1 = l.count false := by
          intro l
          induction l with
          | nil => intro i h; simp at h
          | cons b l ihl =>
            intro i h
            cases i with
            | zero =>
              simp only [List.getElem?_cons_zero, Option.some.injEq] at h
              subst h
              simp
            | succ i =>
              have := ihl i (by simpa using h)
              simp only [List.set_cons_succ, List.count_cons]
              omega
        have := hcount _ _ hli
        omega
      have hclosed' : ∀ j o, ops[j]? = some o → (listed.setIfInBounds i true).getD j false = true → ∀ e ∈ binding o, (listed.setIfInBounds i true).getD e false = true := by
        intro j o' ho'' hD e he
        rw [hget] at hD ⊢
        by_cases hji : j = i
        · subst hji
          rw [ho'] at ho''; injection ho'' with ho''; subst ho''
          split
          · rfl
          · exact hed e he
        · rw [if_neg hji] at hD
          split
          · rfl
          · exact hcl j o' ho'' hD e he
      -- what the entries tell behind it
      have htell : o.dst = some d → ∀ (E' : List Ent) (c' : Ch) (y' : AV), E'.length = E.length → (∀ j, listed.getD j false = true → E'[j]? = E[j]?) → E'[i]? = some (d, c', y') → ∀ t x, look (stD (fun j => (listed.setIfInBounds i true).getD j false) 0 E' σ0) t = some x → look ((d, c', y') :: stD (fun j => listed.getD j false) 0 E σ0) t = some x := by
        intro hdst E' c' y' hlE hagr hE'i t x hx
        have hEE : stD (fun j => listed.getD j false) 0 E' σ0 = stD (fun j => listed.getD j false) 0 E σ0 := stD_of_agree (E := E) (E' := E') (σ := σ0) 0 E E' σ0 hlE fun j hj => hagr j (by simpa using hj)
        have hB' : ∀ (j : Nat) (e : Ent), E'[j]? = some e → j ≠ i → listed.getD j false = true → e.1 = d → j < i := by
          intro j e he hne hl het
          rw [hagr j hl] at he
          have := hB hdst j e he hne het
          rw [hl] at this
          simpa using this.symm
        rcases look_stD (D := fun j => (listed.setIfInBounds i true).getD j false) (t := t) E' 0 σ0 with ⟨j, e, h1, h2, h3, h4, h5⟩ | ⟨h1, h2⟩
        · simp only [Nat.zero_add] at h2 h4
          by_cases htd : t = d
          · subst htd
            have hji : j = i := by
              false_or_by_contra
              rename_i hne
              rw [hget, if_neg hne] at h2
              have hlt := hB' j e h1 hne h2 h3
              exact h4 i _ hlt hE'i (by rw [hget, if_pos rfl]) rfl
            subst hji
            rw [hE'i] at h1
            injection h1 with h1
            rw [h5, ← h1] at hx
            simp only [look, Nat.beq_refl, cond_true]
            exact hx
          · have hcongr : look (stD (fun j => (listed.setIfInBounds i true).getD j false) 0 E' σ0) t = look (stD (fun j => listed.getD j false) 0 E' σ0) t := by
              refine look_stD_congr fun j e he het => ?_
              rw [hget]
              by_cases hji : j = i
              · subst hji; rw [hE'i] at he; injection he with he; subst he; exact absurd het.symm htd
              · rw [if_neg hji]
            have hb : Nat.beq d t = false := by
              cases hb : Nat.beq d t with
              | false => rfl
              | true => exact absurd (Nat.eq_of_beq_eq_true hb).symm htd
            simp only [look, hb, cond_false]
            rw [← hEE, ← hcongr]; exact hx
        · simp only [Nat.zero_add] at h1
          have htd : ¬ t = d := by
            rintro rfl
            exact h1 i _ hE'i (by rw [hget, if_pos rfl]) rfl
          have hcongr : look (stD (fun j => (listed.setIfInBounds i true).getD j false) 0 E' σ0) t = look (stD (fun j => listed.getD j false) 0 E' σ0) t := by
            refine look_stD_congr fun j e he het => ?_
            rw [hget]
            by_cases hji : j = i
            · subst hji; rw [hE'i] at he; injection he with he; subst he; exact absurd het.symm htd
            · rw [if_neg hji]
          have hb : Nat.beq d t = false := by
            cases hb : Nat.beq d t with
            | false => rfl
            | true => exact absurd (Nat.eq_of_beq_eq_true hb).symm htd
          simp only [look, hb, cond_false]
          rw [← hEE, ← hcongr]; exact hx
      have htell0 : ∀ (E' : List Ent), E'.length = E.length → (∀ j, listed.getD j false = true → E'[j]? = E[j]?) → E'[i]? = some (n, [], .lit undef) → (∀ (j : Nat) (e : Ent), E'[j]? = some e → e.1 = n → e = (n, [], .lit undef)) → ∀ t x, look (stD (fun j => (listed.setIfInBounds i true).getD j false) 0 E' σ0) t = some x → (t = n ∧ x = ([], .lit undef)) ∨ look (stD (fun j => listed.getD j false) 0 E σ0) t = some x := by
        intro E' hlE hagr hE'i hE'n t x hx
        have hEE : stD (fun j => listed.getD j false) 0 E' σ0 = stD (fun j => listed.getD j false) 0 E σ0 := stD_of_agree (E := E) (E' := E') (σ := σ0) 0 E E' σ0 hlE fun j hj => hagr j (by simpa using hj)
        by_cases htn : t = n
        · left
          subst htn
          refine ⟨rfl, ?_⟩
          rcases look_stD (D := fun j => (listed.setIfInBounds i true).getD j false) (t := t) E' 0 σ0 with ⟨j, e, h1, h2, h3, h4, h5⟩ | ⟨h1, h2⟩
          · rw [h5] at hx
            have := hE'n j e h1 h3
            rw [this] at hx
            injection hx with hx
            exact hx.symm
          · exact absurd rfl (h1 i _ hE'i (by rw [Nat.zero_add, hget, if_pos rfl]))
        · right
          have hcongr : look (stD (fun j => (listed.setIfInBounds i true).getD j false) 0 E' σ0) t = look (stD (fun j => listed.getD j false) 0 E' σ0) t := by
            refine look_stD_congr fun j e he het => ?_
            rw [hget]
            by_cases hji : j = i
            · subst hji; rw [hE'i] at he; injection he with he; subst he; exact absurd het.symm htn
            · rw [if_neg hji]
          rw [← hEE, ← hcongr]; exact hx
      unfold wpOp
      rw [ho]
      simp only
      by_cases hie : i ∈ ph.rems
      · -- one that turns what is owned: it is one of the next
        have hih : i ∈ ph.heads := by
          unfold lvlOk at hlv
          rw [List.all_eq_true] at hlv
          obtain ⟨e, he, hb⟩ := List.any_eq_true.1 (hlv i hie)
          rw [Bool.or_eq_true] at hb
          rcases hb with hb | hb
          · rw [← Nat.eq_of_beq_eq_true hb]; exact he
          · have h0 := hrem e (heads_rems hph e he)
            rcases hanc e hb with h' | h'
            · rw [h'] at h0; cases h0
            · rw [← h']; exact he
        obtain ⟨nd, lv, rem, hW, hph, hset⟩ := hW.sel hph hih
        have hrem : ∀ e ∈ i :: rem.rems, listed.getD e false = false := fun e he => hrem e ((hset e).2 he)
        have hhere : True := trivial
        · skip
          have hpre : ∀ t, look (only (looks ops o) (stD (fun j => decide (j < i)) 0 E σ0) ++ stD (fun j => listed.getD j false) 0 E σ0) t = look (stD (fun j => listed.getD j false) 0 E σ0) t := by
            intro t
            refine look_prepend fun x hx => ?_
            rw [look_only] at hx
            cases hl : (looks ops o).any (Nat.beq t) with
            | false => rw [hl] at hx; simp at hx
            | true => rw [hl] at hx; rw [hlook t (any_beq.1 hl)]; exact hx
          simp only [subOk, Bool.and_eq_true] at hph
          obtain ⟨⟨⟨_, hlive⟩, hlv', hafter⟩, hph'⟩ := hph
          have hagr' : ∀ E' : List Ent, (∀ j, lv.getD j false = true → E'[j]? = E[j]?) → ∀ j, listed.getD j false = true → E'[j]? = E[j]? := by
            intro E' hagr j hj
            refine hagr j ?_
            have hjlt : j < ops.length := by
              false_or_by_contra
              rw [Array.getD_eq_getD_getElem?, Array.getElem?_eq_none (by omega)] at hj
              cases hj
            unfold liveOk at hlive
            rw [List.all_eq_true] at hlive
            have h1 := hlive j (List.mem_range.2 hjlt)
            rw [Bool.or_eq_true, Bool.not_eq_true'] at h1
            rcases h1 with h1 | h1
            · exfalso
              unfold mayRun at h1
              rw [Bool.not_eq_false', List.any_eq_true] at h1
              obtain ⟨e', he', hb⟩ := h1
              have h0 := hrem e' (by simpa using he')
              rw [Bool.or_eq_true] at hb
              rcases hb with hb | hb
              · have := Nat.eq_of_beq_eq_true hb
                subst this
                rw [hj] at h0; cases h0
              · rw [hancL j hj e' hb] at h0; cases h0
            · exact h1
          have hdone' : ∀ e' ∈ i :: done, (listed.setIfInBounds i true).getD e' false = true := by
            intro e' he'
            rw [hget]
            rcases List.mem_cons.1 he' with rfl | he'
            · rw [if_pos rfl]
            · split
              · rfl
              · exact hdone e' he'
          have hrem' : ∀ e' ∈ rem.rems, (listed.setIfInBounds i true).getD e' false = false := by
            intro e' he'
            rw [hget]
            have hne : e' ≠ i := by
              rintro rfl
              rw [Bool.not_eq_true'] at hafter
              have := any_beq.2 he'
              rw [hafter] at this; cases this
            rw [if_neg hne]
            exact hrem e' (by simp [he'])
          rcases hW.2 with ⟨oe, d2, ho2, hd2, hg2, hn2, hf2, hH⟩ | ⟨oe, ho2, hd2, hg2, hH⟩ | ⟨oe, d2, ch, ho2, hd2, hn2, hf2, hH⟩
          · rw [ho'] at ho2
            injection ho2 with ho2
            subst ho2
            have hdst : o.dst = some d := by
              rcases hdst0 with h | ⟨h, _⟩
              · exact h
              · rw [hd2] at h; cases h
            have hdd : d2 = d := by rw [hdst] at hd2; injection hd2 with hd2; exact hd2.symm
            subst hdd
            rw [if_pos (by simp [Region.wanted, hg2])]
            refine list_wp (ops := ops.toArray) hg2 fun Q' hQ' hX' => ?_
            refine hH _ a w ops.toArray Q' ⟨hk.own, hk.kn.of_look fun t x hx => by rw [hpre] at hx; exact hx⟩ (chFree_append (chFree_only hf2) (hfree hdst hf2)) ?_ hX'
            intro I' y' a' w' hN hk'
            obtain ⟨E', hagr, hE'i, hW'⟩ := hN
            refine hQ' a' w' ?_
            obtain ⟨hlE, hagr⟩ := agr_at hagr
            refine ih (i :: done) rem E' I' _ a' w' hlv' hph' (by simpa using hs) hcount' hclosed' hdone' hrem' hW' ⟨hk'.own, hk'.kn.of_look fun t x hx => ?_⟩
            have h1 := htell hdst E' [] y' hlE (hagr' E' hagr) hE'i t x hx
            simp only [look] at h1 ⊢
            cases hb : Nat.beq d2 t with
            | true => rw [hb] at h1; exact h1
            | false => rw [hb] at h1; simp only [cond_false] at h1 ⊢; rw [hpre]; exact h1
          · rw [ho'] at ho2
            injection ho2 with ho2
            subst ho2
            rw [if_pos (by simp [Region.wanted, hg2])]
            refine list_wp (ops := ops.toArray) hg2 fun Q' hQ' hX' => ?_
            refine hH _ a w ops.toArray Q' ⟨hk.own, hk.kn.of_look fun t x hx => by rw [hpre] at hx; exact hx⟩ ?_ hX'
            intro I' a' w' hN hk'
            obtain ⟨E', hagr, hE'i, hW'⟩ := hN
            refine hQ' a' w' ?_
            obtain ⟨hlE, hagr⟩ := agr_at hagr
            have hE'n : ∀ (j : Nat) (e : Ent), E'[j]? = some e → e.1 = n → e = (n, [], .lit undef) := by
              intro j e' he' hen
              have hHE' := hW'.hops
              obtain ⟨hl', hE'⟩ := hopsG_list hHE'
              have hj : j < ops.length := by rw [← hl']; exact (List.getElem?_eq_some_iff.1 he').1
              obtain ⟨e2, g1, g2, _, _⟩ := hE' j ops[j] (List.getElem?_eq_getElem hj)
              rw [g1] at he'
              injection he' with he'
              subst he'
              rcases g2 with g2 | g2
              · have := hdl j ops[j] e2.1 (List.getElem?_eq_getElem hj) g2
                omega
              · exact g2.2.1
            refine ih (i :: done) rem E' I' _ a' w' hlv' hph' (by simpa using hs) hcount' hclosed' hdone' hrem' hW' ⟨hk'.own, ⟨hk'.kn.defers, hk'.kn.size, fun t c' x' hx => ?_⟩⟩
            rcases htell0 E' hlE (hagr' E' hagr) hE'i hE'n t (c', x') hx with ⟨rfl, h⟩ | h
            · injection h with h1 h2
              subst h1; subst h2
              have hz : a'.tmps.getD t undef = undef := by
                rw [Array.getD_eq_getD_getElem?, Array.getElem?_eq_none (by rw [hk'.kn.size]; exact Nat.le_refl _)]; rfl
              rw [hz]
              exact ⟨fun _ => rep_lit rfl, fun _ => rfl⟩
            · exact hk'.kn.ent t c' x' (by rw [hpre]; exact h)
          · rw [ho'] at ho2
            injection ho2 with ho2
            subst ho2
            have hdst : o.dst = some d := by
              rcases hdst0 with h | ⟨h, _⟩
              · exact h
              · rw [hd2] at h; cases h
            have hdd : d2 = d := by rw [hdst] at hd2; injection hd2 with hd2; exact hd2.symm
            subst hdd
            refine list_wpG (ops := ops.toArray) fun Q' hQ' hX' => ?_
            refine hH _ a w Q' ⟨hk.own, hk.kn.of_look fun t x hx => by rw [hpre] at hx; exact hx⟩ (chFree_append (chFree_only hf2) (hfree hdst hf2)) ?_ hX'
            intro I' y' a' w' hN hk'
            obtain ⟨E', hagr, hE'i, hW'⟩ := hN
            refine hQ' a' w' ?_
            obtain ⟨hlE, hagr⟩ := agr_at hagr
            refine ih (i :: done) rem E' I' _ a' w' hlv' hph' (by simpa using hs) hcount' hclosed' hdone' hrem' hW' ⟨hk'.own, hk'.kn.of_look fun t x hx => ?_⟩
            have h1 := htell hdst E' ch y' hlE (hagr' E' hagr) hE'i t x hx
            simp only [look] at h1 ⊢
            cases hb : Nat.beq d2 t with
            | true => rw [hb] at h1; exact h1
            | false => rw [hb] at h1; simp only [cond_false] at h1 ⊢; rw [hpre]; exact h1
      · -- one that turns nothing
        have hop : Hop P ops M w0 Df n I (stD (fun j => decide (j < i)) 0 E σ0) o d c y := by
          refine hop0 ?_
          unfold maskOk at hmask
          rw [List.all_eq_true] at hmask
          have h1 := hmask i (List.mem_range.2 hilt)
          rw [Bool.or_eq_true] at h1
          rcases h1 with h1 | h1
          · exfalso
            rw [Bool.not_eq_true', Bool.and_eq_false_iff] at h1
            rcases h1 with h1 | h1
            · unfold mayRun at h1
              rw [Bool.not_eq_false', List.any_eq_true] at h1
              obtain ⟨e', he', hb⟩ := h1
              have h0 := hrem e' he'
              rw [Bool.or_eq_true] at hb
              rcases hb with hb | hb
              · have := Nat.eq_of_beq_eq_true hb
                subst this
                exact hie he'
              · rcases hanc e' hb with h | h
                · rw [h] at h0; cases h0
                · subst h; exact hie he'
            · rw [Bool.not_eq_false', List.any_eq_true] at h1
              obtain ⟨e', he', hb⟩ := h1
              have h0 := hdone e' he'
              rw [Bool.or_eq_true] at hb
              rcases hb with hb | hb
              · have := Nat.eq_of_beq_eq_true hb
                subst this
                rw [hiF] at h0; cases h0
              · have := hancL e' h0 i hb
                rw [hiF] at this; cases this
          · exact h1
        have hko : S M w0 a w n I (only (looks ops o) (stD (fun j => decide (j < i)) 0 E σ0)) Df := by
          refine ⟨hk.own, hk.kn.of_look fun t x hx => ?_⟩
          rw [look_only] at hx
          cases hl : (looks ops o).any (Nat.beq t) with
          | false => rw [hl] at hx; simp at hx
          | true => rw [hl] at hx; rw [hlook t (any_beq.1 hl)]; exact hx
        have hdst : o.dst = some d := hop.dst
        have hfree := hfree hdst hop.free
        have hnext : ∀ a' w', S M w0 a' w' n I ((d, c, y) :: stD (fun j => listed.getD j false) 0 E σ0) Df → wpAny P .any ops.toArray Q fuel (listed.setIfInBounds i true) a' w' := by
          intro a' w' hk'
          refine ih done ph E I _ a' w' hlv hph (by simpa using hs) hcount' hclosed' ?_ ?_ hW ⟨hk'.own, hk'.kn.of_look fun t x hx => htell hdst E c y rfl (fun _ _ => rfl) hEi t x hx⟩
          · intro e' he'
            rw [hget]
            split
            · rfl
            · exact hdone e' he'
          · intro e' he'
            rw [hget, if_neg (fun h : e' = i => hie (by rw [← h]; exact he'))]
            exact hrem e' he'
        have hexec : holds a c → Region.wanted o (yielded ops.toArray a.tmps) = true → (if Region.wanted o (yielded ops.toArray a.tmps) = true then o.wp P a w (wpAny P .any ops.toArray Q fuel (listed.setIfInBounds i true)) Q ∨ (o.asks P a w ∧ LetsOut Q) else wpAny P .any ops.toArray Q fuel (listed.setIfInBounds i true) (a.put o.dst undef) w) := by
          intro hh hw
          rw [if_pos hw]
          left
          refine (hop.f a w hko hh).wp hk.own fun v w' hnw hv => ?_
          rw [hop.dst]
          have hk' := hk.fresh hnw
          exact hnext _ _ ⟨hk'.own, hk'.kn.put hop.lt hfree hop.cfree (fun _ => hv) (fun h' => absurd hh h')⟩
        rcases hop.chain with ⟨hg, rfl⟩ | ⟨j, want, g, b, c0, hg, hj, hgn, hl, rfl⟩
        · exact hexec (holds_nil a) (by simp [Region.wanted, hg])
        · have hgl : g ∈ looks ops o := by
            have := hop.cl
            rw [List.all_eq_true] at this
            exact any_beq.1 (this (g, want) List.mem_cons_self)
          have hl' : look (stD (fun j => listed.getD j false) 0 E σ0) g = some (c0, .lit (.bool b)) := by rw [hlook g hgl]; exact hl
          obtain ⟨hw1, hw2⟩ := wanted_iff (ops := ops.toArray) hk.kn hg (by simpa using hj) hgn hl'
          by_cases hh : holds a ((g, want) :: c0)
          · exact hexec hh (hw1.2 hh)
          · rw [if_neg (by rw [hw2 hh]; simp), hop.dst]
            exact hnext _ _ ⟨hk.own, hk.kn.put hop.lt hfree hop.cfree (fun h' => absurd h' hh) (fun _ => rfl)⟩
theorem wdrawE1 {id : Nat} {ops : List Oper} {a : Act} {w : World} {σ : St} (ph : Pt) (E : List Ent) (hm : P.follows .mixedOrders = true) (hord : ordOk ops = true) (hslots : slotsOk n ops = true) (hph : ptOk ops (ancs ops) ph = true) (hk : S M w0 a w n I σ Df)
    (h : PhT P ops M w0 Df Q n (fun I' σ' => ∀ a w, S M w0 a w n I' σ' Df → Q .normal a w) σ ph E I) : (Code.region id ops.toArray true).wp P Q a w := by
  refine wp_region_any hm ?_
  have hw : New w { w with drawn := w.drawn + 1 } := ⟨rfl, rfl, rfl, Nat.le_refl _, fun _ _ _ => rfl⟩
  unfold ptOk at hph
  rw [Bool.and_eq_true] at hph
  refine wpAny_eff hord hslots (fun I σ a w hK hk => hK a w hk) _ [] ph E I _ a _ hph.1 hph.2 (by simp) (by simp) ?_ (by simp) ?_ h ?_
  · intro j o _ hD
    rw [getD_repl] at hD; cases hD
  · intro e _; exact getD_repl _ _
  · have : stD (fun j => (Array.replicate ops.toArray.size false).getD j false) 0 E σ = σ := by
      rw [stD_congr E 0 σ (D' := fun _ => false) fun j _ => getD_repl _ _]
      exact stD_false _ _ _
    rw [this]
    exact hk.fresh hw
theorem wdrawE {id : Nat} {ops : List Oper} {y : Code} {a : Act} {w : World} {σ : St} (ph : Pt) (E : List Ent) (hm : P.follows .mixedOrders = true) (hord : ordOk ops = true) (hslots : slotsOk n ops = true) (hph : ptOk ops (ancs ops) ph = true) (hk : S M w0 a w n I σ Df)
    (h : PhT P ops M w0 Df (Exit.then (y.wp P Q) Q) n (fun I' σ' => ∀ a w, S M w0 a w n I' σ' Df → y.wp P Q a w) σ ph E I) : (Code.seq (.region id ops.toArray true) y).wp P Q a w :=
  wp_seq (wdrawE1 ph E hm hord hslots hph hk h)
theorem gskip {ops rest : List Oper} {o : Oper} {σ : St} {ms : List Bool} {E : List Ent} {d : Nat} {c : Ch} {y : AV} (hd : o.dst = some d) (hcl : (c.all fun p => (looks ops o).any (Nat.beq p.1)) = true) (h' : hopsG P ops M w0 Df n I ms rest E ((d, c, y) :: σ)) : hopsG P ops M w0 Df n I (false :: ms) (o :: rest) ((d, c, y) :: E) σ :=
  ⟨⟨.inl hd, hcl, fun h => nomatch h⟩, h'⟩
theorem gskip0 {ops rest : List Oper} {o : Oper} {σ : St} {ms : List Bool} {E : List Ent} (hd : o.dst = none) (h' : hopsG P ops M w0 Df n I ms rest E ((n, [], .lit undef) :: σ)) : hopsG P ops M w0 Df n I (false :: ms) (o :: rest) ((n, [], .lit undef) :: E) σ :=
  ⟨⟨.inr ⟨hd, rfl, rfl⟩, rfl, fun h => nomatch h⟩, h'⟩
theorem gfun {ops rest : List Oper} {o : Oper} {σ : St} {ms : List Bool} {E : List Ent} {d : Nat} {y : AV} (hd : o.dst = some d) (hn : Nat.blt d n = true) (hf : chFree σ d = true) (hg : o.guard = none)
    (hF : ∀ a w, S M w0 a w n I (only (looks ops o) σ) Df → Fun P (okM M I) o a w y) (h' : hopsG P ops M w0 Df n I ms rest E ((d, [], y) :: σ)) : hopsG P ops M w0 Df n I (true :: ms) (o :: rest) ((d, [], y) :: E) σ :=
  ⟨⟨.inl hd, rfl, fun _ => ⟨hd, hn, hf, rfl, .inl ⟨hg, rfl⟩, rfl, fun a w hk _ => hF a w hk⟩⟩, h'⟩
theorem gfunG {ops rest : List Oper} {o : Oper} {σ : St} {ms : List Bool} {E : List Ent} {d j g : Nat} {want b : Bool} {c0 : Ch} {y : AV} (hd : o.dst = some d) (hn : Nat.blt d n = true) (hf : chFree σ d = true) (hcf : cFree ((g, want) :: c0) d = true)
    (hg : o.guard = some (j, want)) (hj : (ops[j]?).bind (·.dst) = some g) (hgn : Nat.blt g n = true) (hl : look σ g = some (c0, .lit (.bool b))) (hcl : (((g, want) :: c0 : Ch).all fun p => (looks ops o).any (Nat.beq p.1)) = true)
    (hF : ∀ a w, S M w0 a w n I (only (looks ops o) σ) Df → holds a ((g, want) :: c0) → Fun P (okM M I) o a w y) (h' : hopsG P ops M w0 Df n I ms rest E ((d, (g, want) :: c0, y) :: σ)) : hopsG P ops M w0 Df n I (true :: ms) (o :: rest) ((d, (g, want) :: c0, y) :: E) σ :=
  ⟨⟨.inl hd, hcl, fun _ => ⟨hd, hn, hf, hcf, .inr ⟨j, want, g, b, c0, hg, hj, hgn, hl, rfl⟩, hcl, hF⟩⟩, h'⟩
theorem gend {ops : List Oper} {σ : St} : hopsG P ops M w0 Df n I [] [] [] σ := trivial
/-- The next operation that turns what is owned. -/
theorem gnext {ops : List Oper} {K : List It → St → Prop} {σ0 : St} {nd lv : List Bool} {e : Nat} {rem : Pt} {E : List Ent} {oe : Oper} {d : Nat} (h : hopsG P ops M w0 Df n I nd ops E σ0) (ho : ops[e]? = some oe) (hd : oe.dst = some d) (hg : oe.guard = none) (hn : Nat.blt d n = true) (hf : chFree (stD (fun i => decide (i < e)) 0 E σ0) d = true)
    (hH : Heff P M w0 Df Q0 n oe (only (looks ops oe) (stD (fun i => decide (i < e)) 0 E σ0)) I d fun I' y => ∃ E', agr lv E E' ∧ E'[e]? = some (d, [], y) ∧ PhT P ops M w0 Df Q0 n K σ0 rem E' I') : PhT P ops M w0 Df Q0 n K σ0 (.next nd e lv rem) E I :=
  ⟨h, .inl ⟨oe, d, ho, hd, hg, hn, hf, hH⟩⟩
theorem gnext0 {ops : List Oper} {K : List It → St → Prop} {σ0 : St} {nd lv : List Bool} {e : Nat} {rem : Pt} {E : List Ent} {oe : Oper} (h : hopsG P ops M w0 Df n I nd ops E σ0) (ho : ops[e]? = some oe) (hd : oe.dst = none) (hg : oe.guard = none)
    (hH : Heff0 P M w0 Df Q0 n oe (only (looks ops oe) (stD (fun i => decide (i < e)) 0 E σ0)) I fun I' => ∃ E', agr lv E E' ∧ E'[e]? = some (n, [], .lit undef) ∧ PhT P ops M w0 Df Q0 n K σ0 rem E' I') : PhT P ops M w0 Df Q0 n K σ0 (.next nd e lv rem) E I :=
  ⟨h, .inr (.inl ⟨oe, ho, hd, hg, hH⟩)⟩
theorem gnextG {ops : List Oper} {K : List It → St → Prop} {σ0 : St} {nd lv : List Bool} {e : Nat} {rem : Pt} {E : List Ent} {oe : Oper} {d : Nat} (ch : Ch) (h : hopsG P ops M w0 Df n I nd ops E σ0) (ho : ops[e]? = some oe) (hd : oe.dst = some d) (hn : Nat.blt d n = true) (hf : chFree (stD (fun i => decide (i < e)) 0 E σ0) d = true)
    (hH : HeffG P M w0 Df Q0 n ops oe (only (looks ops oe) (stD (fun i => decide (i < e)) 0 E σ0)) I d ch fun I' y => ∃ E', agr lv E E' ∧ E'[e]? = some (d, ch, y) ∧ PhT P ops M w0 Df Q0 n K σ0 rem E' I') : PhT P ops M w0 Df Q0 n K σ0 (.next nd e lv rem) E I :=
  ⟨h, .inr (.inr ⟨oe, d, ch, ho, hd, hn, hf, hH⟩)⟩
theorem glast {ops : List Oper} {K : List It → St → Prop} {σ0 : St} {need : List Bool} {E : List Ent} (h : hopsG P ops M w0 Df n I need ops E σ0) (hK : K I (stD (fun _ => true) 0 E σ0)) : PhT P ops M w0 Df Q0 n K σ0 (.leaf need) E I := ⟨h, hK⟩
/-- One of some comes next. -/
theorem gor {ops : List Oper} {K : List It → St → Prop} {σ0 : St} {E : List Ent} {t u : Pt} (h : PhT P ops M w0 Df Q0 n K σ0 t E I) (h' : PhT P ops M w0 Df Q0 n K σ0 u E I) : PhT P ops M w0 Df Q0 n K σ0 (.or t u) E I := ⟨h, h'⟩
end
end Go.Proofs.Ytaoffkhflmndhaa.FW

/- A region that draws its order: operations that turn nothing come to the same in whatever order; one walk serves all. -/
import Derived.Test.YtaoffkhflmndhaaAvFun
import Derived.Orders
namespace Go.Proofs.Ytaoffkhflmndhaa.FW
variable {Df : List Deferred}
open Go.RowKit
set_option linter.unusedVariables false
set_option linter.unusedSimpArgs false

/-- The slots of an operation's guards. -/
def gslots (ops : List Oper) : Nat → Oper → List Nat
  | 0, _ => []
  | f + 1, o => match o.guard with
    | none => []
    | some (j, _) => match ops[j]? with
      | some oj => oj.dst.toList ++ gslots ops f oj
      | none => []
def looks (ops : List Oper) (o : Oper) : List Nat := (o.op.operands.toList.filterMap fun | .tmp t => some t | _ => none) ++ gslots ops ops.length o
def binding (o : Oper) : List Nat := (o.after.toList.filter (Region.binds .any)).map (·.on)
def maskOf (acc : List Nat) (l : List Nat) : Nat := l.foldl (fun s e => s ||| 2 ^ e ||| acc.getD e 0) 0
def ancsFrom : List Oper → List Nat → List Nat
  | [], acc => acc
  | o :: r, acc => ancsFrom r (acc ++ [maskOf acc (binding o)])
def ancs (ops : List Oper) : List Nat := ancsFrom ops []
def hasD (l : List Nat) (d : Option Nat) : Bool := match d with | some d => l.any (Nat.beq d) | none => false
def clash (ops : List Oper) (x y : Oper) : Bool := hasD (looks ops y) x.dst || hasD (looks ops x) y.dst || (match x.dst with | some d => hasD [d] y.dst | none => false)
/-- Each edge goes back, and what one operation writes and another one looks at, or writes, goes by edges. -/
def ordFrom (ops : List Oper) (an : List Nat) : List Oper → Nat → Bool
  | [], _ => true
  | o :: r, k => (binding o).all (fun e => Nat.blt e k) && (ops.take k).zipIdx.all (fun p => !clash ops p.1 o || (an.getD k 0).testBit p.2) && ordFrom ops an r (k + 1)
def ordOk (ops : List Oper) : Bool := ordFrom ops (ancs ops) ops 0

theorem testBit_maskOf (acc : List Nat) (i : Nat) : ∀ (l : List Nat) (s : Nat), (l.foldl (fun s e => s ||| 2 ^ e ||| acc.getD e 0) s).testBit i = true → s.testBit i = true ∨ ∃ e ∈ l, e = i ∨ (acc.getD e 0).testBit i = true
  | [], s, h => .inl h
  | e :: l, s, h => by
    rw [List.foldl_cons] at h
    rcases testBit_maskOf acc i l _ h with h | ⟨e', he, h⟩
    · rw [Nat.testBit_or, Nat.testBit_or, Bool.or_eq_true, Bool.or_eq_true] at h
      rcases h with (h | h) | h
      · exact .inl h
      · rw [Nat.testBit_two_pow] at h
        exact .inr ⟨e, List.mem_cons_self, .inl (by simpa using h)⟩
      · exact .inr ⟨e, List.mem_cons_self, .inr h⟩
    · exact .inr ⟨e', List.mem_cons_of_mem _ he, h⟩

theorem ancsFrom_prefix : ∀ (ops : List Oper) (acc : List Nat), ∃ t, ancsFrom ops acc = acc ++ t ∧ t.length = ops.length
  | [], acc => ⟨[], by simp [ancsFrom], rfl⟩
  | o :: r, acc => by
    obtain ⟨t, h, hl⟩ := ancsFrom_prefix r (acc ++ [maskOf acc (binding o)])
    exact ⟨maskOf acc (binding o) :: t, by simp [ancsFrom, h], by simp [hl]⟩
theorem ancsFrom_at : ∀ (ops : List Oper) (acc : List Nat) (j : Nat) (o : Oper), ops[j]? = some o → ∃ pre, (∀ k, k < acc.length + j → pre.getD k 0 = (ancsFrom ops acc).getD k 0) ∧ (∀ k, acc.length + j ≤ k → pre.getD k 0 = 0) ∧ (ancsFrom ops acc).getD (acc.length + j) 0 = maskOf pre (binding o)
  | [], acc, j, o, h => by simp at h
  | p :: r, acc, 0, o, h => by
    simp only [List.getElem?_cons_zero, Option.some.injEq] at h
    subst h
    obtain ⟨t, ht, hl⟩ := ancsFrom_prefix r (acc ++ [maskOf acc (binding p)])
    refine ⟨acc, ?_, ?_, ?_⟩
    · intro k hk
      rw [ancsFrom, ht, List.append_assoc]
      rw [List.getD_eq_getElem?_getD, List.getD_eq_getElem?_getD, List.getElem?_append_left (by simpa using hk)]
    · intro k hk
      rw [List.getD_eq_getElem?_getD, List.getElem?_eq_none (by simpa using hk)]; rfl
    · rw [ancsFrom, ht, List.append_assoc]
      rw [List.getD_eq_getElem?_getD, List.getElem?_append_right (by simp)]
      simp
  | p :: r, acc, j + 1, o, h => by
    obtain ⟨pre, h1, h2, h3⟩ := ancsFrom_at r (acc ++ [maskOf acc (binding p)]) j o (by simpa using h)
    have e : (acc ++ [maskOf acc (binding p)]).length + j = acc.length + (j + 1) := by simp; omega
    rw [e] at h1 h2 h3
    exact ⟨pre, by simpa [ancsFrom] using h1, h2, by simpa [ancsFrom] using h3⟩

/-- A set of operations that holds, with each, those that go ahead of it, holds all its ancestors. -/
theorem closed_ancs {ops : List Oper} {D : Nat → Prop} (hD : ∀ j o, ops[j]? = some o → D j → ∀ e ∈ binding o, D e) : ∀ (j : Nat) (o : Oper), ops[j]? = some o → D j → ∀ i, ((ancs ops).getD j 0).testBit i = true → D i := by
  intro j
  induction j using Nat.strongRecOn with
  | _ j ih =>
    intro o ho hj i hi
    obtain ⟨pre, h1, h2, h3⟩ := ancsFrom_at ops [] j o ho
    simp only [List.length_nil, Nat.zero_add] at h1 h2 h3
    unfold ancs at hi
    rw [h3] at hi
    rcases testBit_maskOf pre i _ _ hi with h | ⟨e, he, h⟩
    · simp at h
    · have hDe := hD j o ho hj e he
      rcases h with rfl | h
      · exact hDe
      · by_cases hlt : e < j
        · rw [h1 e hlt] at h
          have : ∃ oe, ops[e]? = some oe := by
            have hlen : j < ops.length := (List.getElem?_eq_some_iff.1 ho).1
            exact ⟨ops[e]'(by omega), List.getElem?_eq_getElem (by omega)⟩
          obtain ⟨oe, hoe⟩ := this
          exact ih e hlt oe hoe hDe i h
        · rw [h2 e (by omega)] at h
          simp at h

theorem ordFrom_at {ops : List Oper} {an : List Nat} : ∀ {l : List Oper} {k : Nat}, ordFrom ops an l k = true → ∀ {j : Nat} {o : Oper}, l[j]? = some o →
    (∀ e ∈ binding o, e < k + j) ∧ ∀ (i : Nat) (oi : Oper), i < k + j → ops[i]? = some oi → clash ops oi o = true → (an.getD (k + j) 0).testBit i = true
  | [], k, h, j, o, hj => by simp at hj
  | p :: r, k, h, 0, o, hj => by
    simp only [List.getElem?_cons_zero, Option.some.injEq] at hj
    subst hj
    simp only [ordFrom, Bool.and_eq_true] at h
    obtain ⟨⟨h1, h2⟩, _⟩ := h
    refine ⟨fun e he => ?_, fun i oi hi hoi hc => ?_⟩
    · rw [List.all_eq_true] at h1
      exact Nat.le_of_ble_eq_true (h1 e he)
    · rw [List.all_eq_true] at h2
      have hm : (oi, i) ∈ (ops.take k).zipIdx := by
        rw [List.mem_zipIdx_iff_getElem?]
        simp only
        rw [List.getElem?_take_of_lt (by omega)]
        exact hoi
      have := h2 _ hm
      simpa [hc] using this
  | p :: r, k, h, j + 1, o, hj => by
    simp only [ordFrom, Bool.and_eq_true] at h
    have h2 := ordFrom_at h.2 (j := j) (o := o) (by simpa using hj)
    rw [show k + (j + 1) = k + 1 + j from by omega]
    exact h2

/-- What is known behind some of the operations. -/
def stD (D : Nat → Bool) : Nat → List (Nat × Ch × AV) → St → St
  | _, [], σ => σ
  | k, e :: r, σ => stD D (k + 1) r (bif D k then e :: σ else σ)

def only (l : List Nat) (σ : St) : St := σ.filter fun e => l.any (Nat.beq e.1)
theorem look_only {l : List Nat} {σ : St} {t : Nat} : look (only l σ) t = bif l.any (Nat.beq t) then look σ t else none := by
  induction σ with
  | nil => simp [only, look]
  | cons e r ih =>
    unfold only at ih ⊢
    rw [List.filter_cons]
    cases hb : Nat.beq e.1 t with
    | true =>
      have he : e.1 = t := Nat.eq_of_beq_eq_true hb
      rw [he]
      cases hl : l.any (Nat.beq t) with
      | true => simp [look, hb]
      | false => rw [hl] at ih; simpa using ih
    | false =>
      cases hl' : l.any (Nat.beq e.1) with
      | true => simp [look, hb, ih]
      | false => simp [look, hb, ih]

/-- The last writer of a slot in a list of entries. -/
theorem look_stD {D : Nat → Bool} {t : Nat} : ∀ (E : List (Nat × Ch × AV)) (k : Nat) (σ : St),
    (∃ j e, E[j]? = some e ∧ D (k + j) = true ∧ e.1 = t ∧ (∀ j' e', j < j' → E[j']? = some e' → D (k + j') = true → ¬ e'.1 = t) ∧ look (stD D k E σ) t = some e.2) ∨
    ((∀ j e, E[j]? = some e → D (k + j) = true → ¬ e.1 = t) ∧ look (stD D k E σ) t = look σ t)
  | [], k, σ => .inr ⟨fun j e h => by simp at h, rfl⟩
  | e :: r, k, σ => by
    rcases look_stD r (k + 1) (bif D k then e :: σ else σ) with ⟨j, e', h1, h2, h3, h4, h5⟩ | ⟨h1, h2⟩
    · left
      refine ⟨j + 1, e', by simpa using h1, by rw [show k + (j + 1) = k + 1 + j from by omega]; exact h2, h3, ?_, by simpa [stD] using h5⟩
      intro j' e'' hlt he'' hD''
      cases j' with
      | zero => omega
      | succ j' => exact h4 j' e'' (by omega) (by simpa using he'') (by rw [show k + 1 + j' = k + (j' + 1) from by omega]; exact hD'')
    · by_cases hk : D k = true ∧ e.1 = t
      · left
        refine ⟨0, e, rfl, by simpa using hk.1, hk.2, ?_, ?_⟩
        · intro j' e'' hlt he'' hD''
          cases j' with
          | zero => omega
          | succ j' => exact h1 j' e'' (by simpa using he'') (by rw [show k + 1 + j' = k + (j' + 1) from by omega]; exact hD'')
        · simp only [stD]
          rw [h2, hk.1]
          simp [look, hk.2]
      · right
        refine ⟨?_, ?_⟩
        · intro j e' he' hD'
          cases j with
          | zero =>
            simp only [List.getElem?_cons_zero, Option.some.injEq] at he'
            subst he'
            exact fun h => hk ⟨by simpa using hD', h⟩
          | succ j => exact h1 j e' (by simpa using he') (by rw [show k + 1 + j = k + (j + 1) from by omega]; exact hD')
        · simp only [stD]
          rw [h2]
          cases hDk : D k with
          | false => rfl
          | true =>
            have hne : ¬ e.1 = t := fun h => hk ⟨hDk, h⟩
            have : Nat.beq e.1 t = false := by
              cases hb : Nat.beq e.1 t with
              | false => rfl
              | true => exact absurd (Nat.eq_of_beq_eq_true hb) hne
            simp [look, this]

/-- Two sets of operations that agree on the writers of a slot tell of it the same. -/
theorem look_stD_congr {D D' : Nat → Bool} {t : Nat} {E : List (Nat × Ch × AV)} {σ : St} (h : ∀ j e, E[j]? = some e → e.1 = t → D j = D' j) : look (stD D 0 E σ) t = look (stD D' 0 E σ) t := by
  rcases look_stD (D := D) (t := t) E 0 σ with ⟨j, e, h1, h2, h3, h4, h5⟩ | ⟨h1, h2⟩ <;>
  rcases look_stD (D := D') (t := t) E 0 σ with ⟨j', e', h1', h2', h3', h4', h5'⟩ | ⟨h1', h2'⟩
  · simp only [Nat.zero_add] at *
    rcases Nat.lt_trichotomy j j' with hlt | rfl | hlt
    · exact absurd h3' (h4 j' e' hlt h1' (by rw [h j' e' h1' h3']; exact h2'))
    · rw [h1] at h1'; injection h1' with h1'; rw [h5, h5', h1']
    · exact absurd h3 (h4' j e hlt h1 (by rw [← h j e h1 h3]; exact h2))
  · simp only [Nat.zero_add] at *
    exact absurd h3 (h1' j e h1 (by rw [← h j e h1 h3]; exact h2))
  · simp only [Nat.zero_add] at *
    exact absurd h3' (h1 j' e' h1' (by rw [h j' e' h1' h3']; exact h2'))
  · rw [h2, h2']

theorem mem_stD {D : Nat → Bool} {x : Nat × Ch × AV} : ∀ (E : List (Nat × Ch × AV)) (k : Nat) (σ : St), x ∈ stD D k E σ → x ∈ σ ∨ ∃ j, E[j]? = some x ∧ D (k + j) = true
  | [], k, σ, h => .inl h
  | e :: r, k, σ, h => by
    rcases mem_stD r (k + 1) _ h with h | ⟨j, h1, h2⟩
    · cases hD : D k with
      | false => rw [hD] at h; exact .inl h
      | true =>
        rw [hD] at h
        simp only [cond_true] at h
        rcases List.mem_cons.1 h with rfl | h
        · exact .inr ⟨0, rfl, by simpa using hD⟩
        · exact .inl h
    · exact .inr ⟨j + 1, by simpa using h1, by rw [show k + (j + 1) = k + 1 + j from by omega]; exact h2⟩
theorem stD_mem {D : Nat → Bool} {x : Nat × Ch × AV} : ∀ (E : List (Nat × Ch × AV)) (k : Nat) (σ : St), (x ∈ σ ∨ ∃ j, E[j]? = some x ∧ D (k + j) = true) → x ∈ stD D k E σ
  | [], k, σ, h => by
    rcases h with h | ⟨j, h, _⟩
    · exact h
    · simp at h
  | e :: r, k, σ, h => by
    refine stD_mem r (k + 1) _ ?_
    rcases h with h | ⟨j, h1, h2⟩
    · left
      cases D k with
      | false => exact h
      | true => exact List.mem_cons_of_mem _ h
    · cases j with
      | zero =>
        simp only [List.getElem?_cons_zero, Option.some.injEq] at h1
        subst h1
        left
        rw [Nat.add_zero] at h2
        rw [h2]
        exact List.mem_cons_self
      | succ j => exact .inr ⟨j, by simpa using h1, by rw [show k + 1 + j = k + (j + 1) from by omega]; exact h2⟩

theorem stD_congr {D D' : Nat → Bool} : ∀ (E : List (Nat × Ch × AV)) (k : Nat) (σ : St), (∀ j, j < E.length → D (k + j) = D' (k + j)) → stD D k E σ = stD D' k E σ
  | [], k, σ, h => rfl
  | e :: r, k, σ, h => by
    have h0 := h 0 (by simp)
    simp only [Nat.add_zero] at h0
    simp only [stD, h0]
    exact stD_congr r (k + 1) _ fun j hj => by
      have := h (j + 1) (by simpa using hj)
      rwa [show k + (j + 1) = k + 1 + j from by omega] at this
theorem stD_false : ∀ (E : List (Nat × Ch × AV)) (k : Nat) (σ : St), stD (fun _ => false) k E σ = σ
  | [], k, σ => rfl
  | e :: r, k, σ => by simpa [stD] using stD_false r (k + 1) σ
theorem stD_shift {D : Nat → Bool} : ∀ (E : List (Nat × Ch × AV)) (k : Nat) (σ : St), stD D (k + 1) E σ = stD (fun i => D (i + 1)) k E σ
  | [], k, σ => rfl
  | e :: r, k, σ => by simp only [stD]; exact stD_shift r (k + 1) _

section
variable {P : Program} {M : Nat → Prop} {w0 : Bs} {n : Nat} {I : List It} {Q : Exit → Act → World → Prop}

/-- What a walk in the text's order asks of one operation. -/
structure Hop (P : Program) (ops : List Oper) (M : Nat → Prop) (w0 : Bs) (Df : List Deferred) (n : Nat) (I : List It) (σ : St) (o : Oper) (d : Nat) (c : Ch) (y : AV) : Prop where
  dst : o.dst = some d
  lt : Nat.blt d n = true
  free : chFree σ d = true
  cfree : cFree c d = true
  chain : (o.guard = none ∧ c = []) ∨ ∃ j want g b c0, o.guard = some (j, want) ∧ (ops[j]?).bind (·.dst) = some g ∧ Nat.blt g n = true ∧ look σ g = some (c0, .lit (.bool b)) ∧ c = (g, want) :: c0
  cl : (c.all fun p => (looks ops o).any (Nat.beq p.1)) = true
  f : ∀ a w, S M w0 a w n I (only (looks ops o) σ) Df → holds a c → Fun P (okM M I) o a w y

def wpF (P : Program) (ops : List Oper) (M : Nat → Prop) (w0 : Bs) (Df : List Deferred) (n : Nat) (I : List It) : List Oper → St → (St → Prop) → Prop
  | [], σ, K => K σ
  | o :: r, σ, K => ∃ d c y, Hop P ops M w0 Df n I σ o d c y ∧ wpF P ops M w0 Df n I r ((d, c, y) :: σ) K

theorem wpF_list {ops : List Oper} {K : St → Prop} : ∀ {l : List Oper} {σ : St}, wpF P ops M w0 Df n I l σ K → ∃ E : List (Nat × Ch × AV), E.length = l.length ∧
    (∀ (j : Nat) (o : Oper), l[j]? = some o → ∃ d c y, E[j]? = some (d, c, y) ∧ Hop P ops M w0 Df n I (stD (fun i => decide (i < j)) 0 E σ) o d c y) ∧ K (stD (fun _ => true) 0 E σ)
  | [], σ, h => ⟨[], rfl, fun j o h => by simp at h, h⟩
  | o :: r, σ, h => by
    obtain ⟨d, c, y, h1, h2⟩ := h
    obtain ⟨E, hl, hE, hK⟩ := wpF_list h2
    refine ⟨(d, c, y) :: E, by simp [hl], ?_, ?_⟩
    · intro j o' ho'
      cases j with
      | zero =>
        simp only [List.getElem?_cons_zero, Option.some.injEq] at ho'
        subst ho'
        refine ⟨d, c, y, rfl, ?_⟩
        have : stD (fun i => decide (i < 0)) 0 ((d, c, y) :: E) σ = σ := by
          rw [show (fun i => decide (i < 0)) = (fun _ : Nat => false) from by funext i; simp]
          exact stD_false _ _ _
        rw [this]
        exact h1
      | succ j =>
        obtain ⟨d', c', y', h3, h4⟩ := hE j o' (by simpa using ho')
        refine ⟨d', c', y', by simpa using h3, ?_⟩
        have : stD (fun i => decide (i < j + 1)) 0 ((d, c, y) :: E) σ = stD (fun i => decide (i < j)) 0 E ((d, c, y) :: σ) := by
          simp only [stD]
          rw [stD_shift]
          simp only [Nat.zero_lt_succ, decide_true, cond_true, Nat.add_lt_add_iff_right]
        rw [this]
        exact h4
    · simp only [stD]
      rw [stD_shift]
      simpa using hK

theorem Knows.of_look {ok : Nat → Prop} {a : Act} {w : World} {σ σ' : St} (hk : Knows ok a w n σ Df) (h : ∀ t x, look σ' t = some x → look σ t = some x) : Knows ok a w n σ' Df := ⟨hk.defers, hk.size, fun i c x hl => hk.ent i c x (h _ _ hl)⟩

theorem any_beq {l : List Nat} {t : Nat} : l.any (Nat.beq t) = true ↔ t ∈ l := by
  rw [List.any_eq_true]
  constructor
  · rintro ⟨x, hx, h⟩
    rw [Nat.eq_of_beq_eq_true h]; exact hx
  · intro h
    exact ⟨t, h, by simp⟩

theorem wpAny_fun {ops : List Oper} {E : List (Nat × Ch × AV)} {σ0 : St} (hord : ordOk ops = true) (hlen : E.length = ops.length)
    (hE : ∀ (j : Nat) (o : Oper), ops[j]? = some o → ∃ d c y, E[j]? = some (d, c, y) ∧ Hop P ops M w0 Df n I (stD (fun i => decide (i < j)) 0 E σ0) o d c y)
    (hQ : ∀ a w, S M w0 a w n I (stD (fun _ => true) 0 E σ0) Df → Q .normal a w) :
    ∀ (fuel : Nat) (listed : Array Bool) (a : Act) (w : World), listed.size = ops.length → listed.toList.count false = fuel →
      (∀ j o, ops[j]? = some o → listed.getD j false = true → ∀ e ∈ binding o, listed.getD e false = true) →
      S M w0 a w n I (stD (fun j => listed.getD j false) 0 E σ0) Df → wpAny P .any ops.toArray Q fuel listed a w := by
  intro fuel
  have hopE : ∀ (j : Nat) (e : Nat × Ch × AV), E[j]? = some e → ∃ o, ops[j]? = some o ∧ o.dst = some e.1 ∧ (e.2.1.all fun p => (looks ops o).any (Nat.beq p.1)) = true := by
    intro j e he
    have hj : j < ops.length := by rw [← hlen]; exact (List.getElem?_eq_some_iff.1 he).1
    obtain ⟨d, c, y, h1, h2⟩ := hE j ops[j] (List.getElem?_eq_getElem hj)
    rw [h1] at he
    injection he with he
    subst he
    exact ⟨ops[j], List.getElem?_eq_getElem hj, h2.dst, h2.cl⟩
  have noneLeft : ∀ (listed : Array Bool), listed.size = ops.length → listed.toList.count false = 0 → (∀ j, j < ops.length → listed.getD j false = true) := by
    intro listed hs hc j hj
    have h1 : false ∉ listed.toList := List.count_eq_zero.1 hc
    have h2 : listed[j]'(by omega) ∈ listed.toList := by
      rw [Array.mem_toList_iff]; exact Array.getElem_mem _
    cases hb : listed[j]'(by omega) with
    | true => simp [Array.getD_eq_getD_getElem?, hs, hj, hb]
    | false => rw [hb] at h2; exact absurd h2 h1
  have hready : ∀ (listed : Array Bool), listed.size = ops.length → (∃ j, j < ops.length ∧ listed.getD j false = false) → Region.ready .any ops.toArray listed ≠ [] := by
    intro listed hs hex hnil
    have : ∀ j, j < ops.length → listed.getD j false = true := by
      intro j
      induction j using Nat.strongRecOn with
      | _ j ih =>
        intro hj
        cases hb : listed.getD j false with
        | true => rfl
        | false =>
          exfalso
          have hm : j ∈ Region.ready .any ops.toArray listed := by
            rw [mem_ready]
            refine ⟨?_, ops[j], by simp [hj], ?_⟩
            · have hlt : j < listed.size := by omega
              simpa [Array.getD_eq_getD_getElem?, hlt] using hb
            · intro e he hbnd
              have hmem : e.on ∈ binding ops[j] := by
                unfold binding
                refine List.mem_map.2 ⟨e, List.mem_filter.2 ⟨by simpa using he, hbnd⟩, rfl⟩
              have hlt := (ordFrom_at (k := 0) hord (j := j) (o := ops[j]) (List.getElem?_eq_getElem hj)).1 _ hmem
              rw [Nat.zero_add] at hlt
              exact ih e.on hlt (by omega)
          rw [hnil] at hm
          cases hm
    obtain ⟨j, hj, hf⟩ := hex
    rw [this j hj] at hf
    cases hf
  induction fuel with
  | zero =>
    intro listed a w hs hc hcl hk
    have hall := noneLeft listed hs hc
    refine ⟨?_, hQ a w ?_⟩
    · apply List.eq_nil_iff_forall_not_mem.2
      intro j hj
      rw [mem_ready] at hj
      obtain ⟨h0, o, ho, _⟩ := hj
      have hlt : j < ops.length := by simpa using (Array.getElem?_eq_some_iff.1 ho).1
      have h1 := hall j hlt
      have hlt' : j < listed.size := by omega
      simp [Array.getD_eq_getD_getElem?, hlt'] at h0 h1
      rw [h0] at h1; cases h1
    · rw [stD_congr E 0 σ0 (D' := fun j => listed.getD j false) fun j hj => by simpa using (hall j (by omega)).symm]
      exact hk
  | succ fuel ih =>
    intro listed a w hs hc hcl hk
    refine ⟨fun hnil => ?_, fun i hi => ?_⟩
    · exfalso
      refine hready listed hs ?_ hnil
      false_or_by_contra
      rename_i hno
      have : listed.toList.count false = 0 := by
        rw [List.count_eq_zero]
        intro hm
        obtain ⟨j, hj⟩ := List.mem_iff_getElem?.1 hm
        have hlt : j < listed.size := by
          have := (List.getElem?_eq_some_iff.1 hj).1; simpa using this
        refine hno ⟨j, by omega, ?_⟩
        have : listed[j]? = some false := by simpa using hj
        simp [Array.getD_eq_getD_getElem?, this]
      omega
    · rw [mem_ready] at hi
      obtain ⟨hi0, o, ho, hedges⟩ := hi
      have ho' : ops[i]? = some o := by simpa using ho
      have hilt : i < ops.length := (List.getElem?_eq_some_iff.1 ho').1
      have hilt' : i < listed.size := by omega
      have hiF : listed.getD i false = false := by simpa [Array.getD_eq_getD_getElem?, hilt'] using hi0
      obtain ⟨d, c, y, hEi, hop⟩ := hE i o ho'
      -- the edges are listed
      have hed : ∀ e ∈ binding o, listed.getD e false = true := by
        intro e he
        unfold binding at he
        obtain ⟨x, hx, rfl⟩ := List.mem_map.1 he
        obtain ⟨h1, h2⟩ := List.mem_filter.1 hx
        exact hedges x (by simpa using h1) h2
      have hordi := ordFrom_at (k := 0) hord (j := i) (o := o) ho'
      simp only [Nat.zero_add] at hordi
      -- what clashes with it
      have hclash : ∀ (j : Nat) (oj : Oper), ops[j]? = some oj → j ≠ i → (clash ops oj o = true ∨ clash ops o oj = true) → (clash ops oj o = true ∧ clash ops o oj = true) → listed.getD j false = decide (j < i) := by
        intro j oj hoj hne _ hcl2
        rcases Nat.lt_or_ge j i with hlt | hge
        · have hb := hordi.2 j oj hlt hoj hcl2.1
          have := closed_ancs (ops := ops) (D := fun k => listed.getD k false = true ∨ k = i) (by
            intro j' o' ho'' hD e he
            rcases hD with hD | rfl
            · exact .inl (hcl j' o' ho'' hD e he)
            · rw [ho'] at ho''; injection ho'' with ho''; subst ho''
              exact .inl (hed e he)) i o ho' (.inr rfl) j hb
          rcases this with h | h
          · rw [h]; simp [hlt]
          · exact absurd h hne
        · have hlt : i < j := by omega
          have hordj := ordFrom_at (k := 0) hord (j := j) (o := oj) hoj
          simp only [Nat.zero_add] at hordj
          have hb := hordj.2 i o hlt ho' hcl2.2
          cases hD : listed.getD j false with
          | false => simp; omega
          | true =>
            have := closed_ancs (ops := ops) (D := fun k => listed.getD k false = true) (fun j' o' ho'' hD e he => hcl j' o' ho'' hD e he) j oj hoj hD i hb
            rw [hiF] at this; cases this
      have hA : ∀ (t : Nat), t ∈ looks ops o → ∀ (j : Nat) (e : Nat × Ch × AV), E[j]? = some e → e.1 = t → listed.getD j false = decide (j < i) := by
        intro t ht j e he het
        obtain ⟨oj, hoj, hdj, _⟩ := hopE j e he
        by_cases hji : j = i
        · subst hji; rw [hiF]; simp
        · refine hclash j oj hoj hji (.inl ?_) ⟨?_, ?_⟩ <;> · simp [clash, hasD, hdj, het, any_beq.2 ht]
      have hB : ∀ (j : Nat) (e : Nat × Ch × AV), E[j]? = some e → j ≠ i → e.1 = d → listed.getD j false = decide (j < i) := by
        intro j e he hne het
        obtain ⟨oj, hoj, hdj, _⟩ := hopE j e he
        refine hclash j oj hoj hne (.inl ?_) ⟨?_, ?_⟩ <;> · simp [clash, hasD, hdj, het, hop.dst]
      have hC : ∀ (j : Nat) (e : Nat × Ch × AV), E[j]? = some e → j ≠ i → cFree e.2.1 d = false → listed.getD j false = decide (j < i) := by
        intro j e he hne hcf
        obtain ⟨oj, hoj, hdj, hcj⟩ := hopE j e he
        have hd : d ∈ looks ops oj := by
          unfold cFree at hcf
          rw [List.all_eq_false] at hcf
          obtain ⟨p, hp, hb⟩ := hcf
          have hpd : p.1 = d := by
            cases hbb : Nat.beq p.1 d with
            | true => exact Nat.eq_of_beq_eq_true hbb
            | false => simp [hbb] at hb
          rw [List.all_eq_true] at hcj
          rw [← hpd]
          exact any_beq.1 (hcj p hp)
        refine hclash j oj hoj hne (.inl ?_) ⟨?_, ?_⟩ <;> · simp [clash, hasD, hop.dst, any_beq.2 hd]
      have hlook : ∀ (t : Nat), t ∈ looks ops o → look (stD (fun j => listed.getD j false) 0 E σ0) t = look (stD (fun j => decide (j < i)) 0 E σ0) t := by
        intro t ht
        exact look_stD_congr fun j e he het => hA t ht j e he het
      have hko : S M w0 a w n I (only (looks ops o) (stD (fun j => decide (j < i)) 0 E σ0)) Df := by
        refine ⟨hk.own, hk.kn.of_look fun t x hx => ?_⟩
        rw [look_only] at hx
        cases hl : (looks ops o).any (Nat.beq t) with
        | false => rw [hl] at hx; simp at hx
        | true => rw [hl] at hx; rw [hlook t (any_beq.1 hl)]; exact hx
      have hfree : chFree (stD (fun j => listed.getD j false) 0 E σ0) d = true := by
        have h0 := hop.free
        unfold chFree at h0 ⊢
        rw [List.all_eq_true] at h0 ⊢
        intro e he
        rcases mem_stD E 0 σ0 he with h | ⟨j, hj, hD⟩
        · exact h0 e (stD_mem E 0 σ0 (.inl h))
        · rw [Nat.zero_add] at hD
          by_cases hji : j = i
          · subst hji; rw [hiF] at hD; cases hD
          · cases hcf : cFree e.2.1 d with
            | true => rfl
            | false =>
              have h1 := hC j e hj hji hcf
              rw [hD] at h1
              have := h0 e (stD_mem E 0 σ0 (.inr ⟨j, hj, by rw [Nat.zero_add]; exact h1.symm⟩))
              rw [hcf] at this; exact this
      -- what is known behind it
      have hnext : ∀ a' w', S M w0 a' w' n I ((d, c, y) :: stD (fun j => listed.getD j false) 0 E σ0) Df → wpAny P .any ops.toArray Q fuel (listed.setIfInBounds i true) a' w' := by
        intro a' w' hk'
        have hget : ∀ j, (listed.setIfInBounds i true).getD j false = if j = i then true else listed.getD j false := by
          intro j
          simp only [Array.getD_eq_getD_getElem?, Array.getElem?_setIfInBounds]
          by_cases h : i = j
          · subst h; simp [hilt']
          · simp [h, Ne.symm h]
        refine ih _ a' w' (by simpa using hs) ?_ ?_ ⟨hk'.own, hk'.kn.of_look fun t x hx => ?_⟩
        · rw [Array.toList_setIfInBounds]
          have hli : listed.toList[i]? = some false := by
            have : listed[i]? = some false := by
              simp [Array.getElem?_eq_getElem hilt'] 
              simpa [Array.getD_eq_getD_getElem?, hilt'] using hiF
            simpa using this
          have hcount : ∀ (l : List Bool) (i : Nat), l[i]? = some false → (l.set i true).count false + 1 = l.count false := by
            intro l
            induction l with
            | nil => intro i h; simp at h
            | cons b l ihl =>
              intro i h
              cases i with
              | zero =>
                simp only [List.getElem?_cons_zero, Option.some.injEq] at h
                subst h
                simp
              | succ i =>
                have := ihl i (by simpa using h)
                simp only [List.set_cons_succ, List.count_cons]
                omega
          have := hcount _ _ hli
          omega
        · intro j o' ho'' hD e he
          rw [hget] at hD ⊢
          by_cases hji : j = i
          · subst hji
            rw [ho'] at ho''; injection ho'' with ho''; subst ho''
            split
            · rfl
            · exact hed e he
          · rw [if_neg hji] at hD
            split
            · rfl
            · exact hcl j o' ho'' hD e he
        · rcases look_stD (D := fun j => (listed.setIfInBounds i true).getD j false) (t := t) E 0 σ0 with ⟨j, e, h1, h2, h3, h4, h5⟩ | ⟨h1, h2⟩
          · simp only [Nat.zero_add] at h2 h4
            by_cases htd : t = d
            · subst htd
              have hji : j = i := by
                false_or_by_contra
                rename_i hne
                rw [hget, if_neg hne] at h2
                have h6 := hB j e h1 hne h3
                rw [h2] at h6
                have hlt : j < i := by simpa using h6.symm
                exact h4 i _ hlt hEi (by rw [hget, if_pos rfl]) rfl
              subst hji
              rw [hEi] at h1
              injection h1 with h1
              rw [h5, ← h1] at hx
              simp only [look, Nat.beq_refl, cond_true]
              exact hx
            · have hcongr : look (stD (fun j => (listed.setIfInBounds i true).getD j false) 0 E σ0) t = look (stD (fun j => listed.getD j false) 0 E σ0) t := by
                refine look_stD_congr fun j e he het => ?_
                rw [hget]
                by_cases hji : j = i
                · subst hji; rw [hEi] at he; injection he with he; subst he; exact absurd het.symm htd
                · rw [if_neg hji]
              have hb : Nat.beq d t = false := by
                cases hb : Nat.beq d t with
                | false => rfl
                | true => exact absurd (Nat.eq_of_beq_eq_true hb).symm htd
              simp only [look, hb, cond_false]
              rw [← hcongr]; exact hx
          · simp only [Nat.zero_add] at h1
            have htd : ¬ t = d := by
              rintro rfl
              exact h1 i _ hEi (by rw [hget, if_pos rfl]) rfl
            have hcongr : look (stD (fun j => (listed.setIfInBounds i true).getD j false) 0 E σ0) t = look (stD (fun j => listed.getD j false) 0 E σ0) t := by
              refine look_stD_congr fun j e he het => ?_
              rw [hget]
              by_cases hji : j = i
              · subst hji; rw [hEi] at he; injection he with he; subst he; exact absurd het.symm htd
              · rw [if_neg hji]
            have hb : Nat.beq d t = false := by
              cases hb : Nat.beq d t with
              | false => rfl
              | true => exact absurd (Nat.eq_of_beq_eq_true hb).symm htd
            simp only [look, hb, cond_false]
            rw [← hcongr]; exact hx
      unfold wpOp
      rw [ho]
      simp only
      have hexec : holds a c → Region.wanted o (yielded ops.toArray a.tmps) = true → (if Region.wanted o (yielded ops.toArray a.tmps) = true then o.wp P a w (wpAny P .any ops.toArray Q fuel (listed.setIfInBounds i true)) Q ∨ (o.asks P a w ∧ LetsOut Q) else wpAny P .any ops.toArray Q fuel (listed.setIfInBounds i true) (a.put o.dst undef) w) := by
        intro hh hw
        rw [if_pos hw]
        left
        refine (hop.f a w hko hh).wp hk.own fun v w' hnw hv => ?_
        rw [hop.dst]
        have hk' := hk.fresh hnw
        exact hnext _ _ ⟨hk'.own, hk'.kn.put hop.lt hfree hop.cfree (fun _ => hv) (fun h' => absurd hh h')⟩
      rcases hop.chain with ⟨hg, rfl⟩ | ⟨j, want, g, b, c0, hg, hj, hgn, hl, rfl⟩
      · exact hexec (holds_nil a) (by simp [Region.wanted, hg])
      · have hgl : g ∈ looks ops o := by
          have := hop.cl
          rw [List.all_eq_true] at this
          exact any_beq.1 (this (g, want) List.mem_cons_self)
        have hl' : look (stD (fun j => listed.getD j false) 0 E σ0) g = some (c0, .lit (.bool b)) := by rw [hlook g hgl]; exact hl
        obtain ⟨hw1, hw2⟩ := wanted_iff (ops := ops.toArray) hk.kn hg (by simpa using hj) hgn hl'
        by_cases hh : holds a ((g, want) :: c0)
        · exact hexec hh (hw1.2 hh)
        · rw [if_neg (by rw [hw2 hh]; simp), hop.dst]
          exact hnext _ _ ⟨hk.own, hk.kn.put hop.lt hfree hop.cfree (fun h' => absurd h' hh) (fun _ => rfl)⟩

theorem getD_repl (k j : Nat) : (Array.replicate k false).getD j false = false := by
  rw [Array.getD_eq_getD_getElem?, Array.getElem?_replicate]; split <;> rfl
theorem wdraw1 {id : Nat} {ops : List Oper} {a : Act} {w : World} {σ : St} (hm : P.follows .mixedOrders = true) (hord : ordOk ops = true) (hk : S M w0 a w n I σ Df)
    (h : wpF P ops M w0 Df n I ops σ fun σ' => ∀ a w, S M w0 a w n I σ' Df → Q .normal a w) : (Code.region id ops.toArray true).wp P Q a w := by
  obtain ⟨E, hl, hE, hQ⟩ := wpF_list h
  refine wp_region_any hm ?_
  have hw : New w { w with drawn := w.drawn + 1 } := ⟨rfl, rfl, rfl, Nat.le_refl _, fun _ _ _ => rfl⟩
  refine wpAny_fun hord hl hE hQ _ _ a _ (by simp) (by simp) ?_ ?_
  · intro j o _ hD
    rw [getD_repl] at hD; cases hD
  · have : stD (fun j => (Array.replicate ops.toArray.size false).getD j false) 0 E σ = σ := by
      rw [stD_congr E 0 σ (D' := fun _ => false) fun j _ => getD_repl _ _]
      exact stD_false _ _ _
    rw [this]
    exact hk.fresh hw
theorem wdraw {id : Nat} {ops : List Oper} {y : Code} {a : Act} {w : World} {σ : St} (hm : P.follows .mixedOrders = true) (hord : ordOk ops = true) (hk : S M w0 a w n I σ Df)
    (h : wpF P ops M w0 Df n I ops σ fun σ' => ∀ a w, S M w0 a w n I σ' Df → y.wp P Q a w) : (Code.seq (.region id ops.toArray true) y).wp P Q a w :=
  wp_seq (wdraw1 hm hord hk h)
theorem dstep {ops rest : List Oper} {o : Oper} {σ : St} {K : St → Prop} (d : Nat) (c : Ch) (y : AV) (h : Hop P ops M w0 Df n I σ o d c y) (h' : wpF P ops M w0 Df n I rest ((d, c, y) :: σ) K) : wpF P ops M w0 Df n I (o :: rest) σ K := ⟨d, c, y, h, h'⟩
theorem dfun {ops rest : List Oper} {o : Oper} {σ : St} {K : St → Prop} {d : Nat} {y : AV} (hd : o.dst = some d) (hn : Nat.blt d n = true) (hf : chFree σ d = true) (hg : o.guard = none)
    (hF : ∀ a w, S M w0 a w n I (only (looks ops o) σ) Df → Fun P (okM M I) o a w y) (h' : wpF P ops M w0 Df n I rest ((d, [], y) :: σ) K) : wpF P ops M w0 Df n I (o :: rest) σ K :=
  dstep d [] y ⟨hd, hn, hf, rfl, .inl ⟨hg, rfl⟩, rfl, fun a w hk _ => hF a w hk⟩ h'
theorem dfunG {ops rest : List Oper} {o : Oper} {σ : St} {K : St → Prop} {d j g : Nat} {want b : Bool} {c0 : Ch} {y : AV} (hd : o.dst = some d) (hn : Nat.blt d n = true) (hf : chFree σ d = true) (hcf : cFree ((g, want) :: c0) d = true)
    (hg : o.guard = some (j, want)) (hj : (ops[j]?).bind (·.dst) = some g) (hgn : Nat.blt g n = true) (hl : look σ g = some (c0, .lit (.bool b))) (hcl : (((g, want) :: c0 : Ch).all fun p => (looks ops o).any (Nat.beq p.1)) = true)
    (hF : ∀ a w, S M w0 a w n I (only (looks ops o) σ) Df → holds a ((g, want) :: c0) → Fun P (okM M I) o a w y) (h' : wpF P ops M w0 Df n I rest ((d, (g, want) :: c0, y) :: σ) K) : wpF P ops M w0 Df n I (o :: rest) σ K :=
  dstep d _ y ⟨hd, hn, hf, hcf, .inr ⟨j, want, g, b, c0, hg, hj, hgn, hl, rfl⟩, hcl, hF⟩ h'
theorem dend {ops : List Oper} {σ : St} {K : St → Prop} (h : K σ) : wpF P ops M w0 Df n I [] σ K := h
end
end Go.Proofs.Ytaoffkhflmndhaa.FW

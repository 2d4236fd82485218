/- What is known of a frame's slots is told in abstract values: lists and structs without addresses; what a call owns stands in a list of items. -/
import Derived.WalkKit
import Derived.Below
import Derived.Deep.QuietTactic
import Derived.IntWalk
import Derived.Lib.Strings
import Derived.Laws.AppendOwn
namespace Go.Proofs.Ytaoffkhflmndhaa.FW
variable {Df : List Deferred}
open Go.RowKit
set_option linter.unusedVariables false

/-- An abstract value: a value that is known to the letter; a slice that is read alone, by its elements' cells; a struct's cells; a tuple; an address from which some cells are read; a function with what it captured. -/
inductive AV where
  | lit (v : Value)
  | row (xs : List (List AV))
  | agg (cs : List AV)
  | tup (cs : List AV)
  | ref (cs : List AV)
  | clo (f : Nat) (cs : List AV)

mutual
def Rep (ok : Nat → Prop) (w : World) : AV → Value → Prop
  | .lit u, v => v = u
  | .row xs, v => ∃ a cap, v = .slice a xs.length cap ∧ xs.length ≤ cap ∧ (xs = [] ∨ ∃ b off cs e fr, a = some ⟨b, off, none⟩ ∧ ok b ∧ w.heap[b]? = some (.cells cs e fr) ∧ RepR ok w xs (cs.toList.drop off))
  | .agg cs, v => ∃ vs, v = .agg vs ∧ RepL ok w cs vs.toList
  | .tup cs, v => ∃ vs, v = .tuple vs ∧ RepL ok w cs vs.toList
  | .ref cs, v => ∃ b off arr e fr, v = .pointer (some ⟨b, off, none⟩) ∧ ok b ∧ w.heap[b]? = some (.cells arr e fr) ∧ RepP ok w cs (arr.toList.drop off)
  | .clo f cs, v => ∃ vs, v = .func (.func f) #[] vs ∧ RepL ok w cs vs.toList
def RepL (ok : Nat → Prop) (w : World) : List AV → List Value → Prop
  | [], vs => vs = []
  | c :: cs, vs => ∃ v r, vs = v :: r ∧ Rep ok w c v ∧ RepL ok w cs r
/-- Cells at the beginning of some. -/
def RepP (ok : Nat → Prop) (w : World) : List AV → List Value → Prop
  | [], _ => True
  | c :: cs, vs => ∃ v r, vs = v :: r ∧ Rep ok w c v ∧ RepP ok w cs r
/-- Elements at the beginning of some cells. -/
def RepR (ok : Nat → Prop) (w : World) : List (List AV) → List Value → Prop
  | [], _ => True
  | x :: xs, vs => RepP ok w x vs ∧ RepR ok w xs (vs.drop x.length)
end

/-- From one world to another one, and from one set of blocks that may be read to another one. -/
def Goes (ok ok' : Nat → Prop) (w w' : World) : Prop := ∀ b, ok b → b < w.heap.size → ok' b ∧ w'.heap[b]? = w.heap[b]?

theorem heap_lt {w : World} {b : Nat} {o : Obj} (h : w.heap[b]? = some o) : b < w.heap.size := (Array.getElem?_eq_some_iff.1 h).1

section
variable {ok ok' : Nat → Prop} {w w' : World}
mutual
theorem Rep.go (h : Goes ok ok' w w') : ∀ (x : AV) (v : Value), Rep ok w x v → Rep ok' w' x v
  | .lit u, v, hr => by simpa [Rep] using hr
  | .row xs, v, hr => by
    simp only [Rep] at hr ⊢
    obtain ⟨a, cap, hv, hcp, hx⟩ := hr
    refine ⟨a, cap, hv, hcp, hx.imp id ?_⟩
    rintro ⟨b, off, cs, e, fr, ha, hb, hh, hR⟩
    obtain ⟨h1, h2⟩ := h b hb (heap_lt hh)
    exact ⟨b, off, cs, e, fr, ha, h1, h2.trans hh, RepR.go h xs _ hR⟩
  | .agg cs, v, hr => by
    simp only [Rep] at hr ⊢
    obtain ⟨vs, hv, hL⟩ := hr
    exact ⟨vs, hv, RepL.go h cs _ hL⟩
  | .tup cs, v, hr => by
    simp only [Rep] at hr ⊢
    obtain ⟨vs, hv, hL⟩ := hr
    exact ⟨vs, hv, RepL.go h cs _ hL⟩
  | .ref cs, v, hr => by
    simp only [Rep] at hr ⊢
    obtain ⟨b, off, arr, e, fr, hv, hb, hh, hL⟩ := hr
    obtain ⟨h1, h2⟩ := h b hb (heap_lt hh)
    exact ⟨b, off, arr, e, fr, hv, h1, h2.trans hh, RepP.go h cs _ hL⟩
  | .clo f cs, v, hr => by
    simp only [Rep] at hr ⊢
    obtain ⟨vs, hv, hL⟩ := hr
    exact ⟨vs, hv, RepL.go h cs _ hL⟩
theorem RepL.go (h : Goes ok ok' w w') : ∀ (cs : List AV) (vs : List Value), RepL ok w cs vs → RepL ok' w' cs vs
  | [], vs, hr => by simpa [RepL] using hr
  | c :: cs, vs, hr => by
    simp only [RepL] at hr ⊢
    obtain ⟨v, r, hv, h1, h2⟩ := hr
    exact ⟨v, r, hv, Rep.go h c v h1, RepL.go h cs r h2⟩
theorem RepP.go (h : Goes ok ok' w w') : ∀ (cs : List AV) (vs : List Value), RepP ok w cs vs → RepP ok' w' cs vs
  | [], vs, hr => by simp [RepP]
  | c :: cs, vs, hr => by
    simp only [RepP] at hr ⊢
    obtain ⟨v, r, hv, h1, h2⟩ := hr
    exact ⟨v, r, hv, Rep.go h c v h1, RepP.go h cs r h2⟩
theorem RepR.go (h : Goes ok ok' w w') : ∀ (xs : List (List AV)) (vs : List Value), RepR ok w xs vs → RepR ok' w' xs vs
  | [], vs, hr => by simp [RepR]
  | x :: xs, vs, hr => by
    simp only [RepR] at hr ⊢
    exact ⟨RepP.go h x vs hr.1, RepR.go h xs _ hr.2⟩
end
end

/-! ### Slots -/
/-- A chain of guards: the slot of a guard, and what it must hold. -/
abbrev Ch := List (Nat × Bool)
abbrev St := List (Nat × Ch × AV)

def look : St → Nat → Option (Ch × AV)
  | [], _ => none
  | e :: r, i => bif Nat.beq e.1 i then some e.2 else look r i

def subc (c1 c2 : Ch) : Bool := c1.all fun p => c2.any fun q => Nat.beq p.1 q.1 && (p.2 == q.2)

def opv (σ : St) : Operand → Option (Ch × AV)
  | .tmp t => look σ t
  | .const v => some ([], .lit v)
  | .global g => some ([], .lit (.pointer (some ⟨g, 0, none⟩)))
  | .func f => some ([], .lit (.func (.func f) #[] #[]))

/-- An operand's value where a chain of guards holds. -/
def opvc (σ : St) (c : Ch) (x : Operand) : Option AV :=
  match opv σ x with
  | some (c1, v) => bif subc c1 c then some v else none
  | none => none

def cFree (c : Ch) (d : Nat) : Bool := c.all fun p => !(Nat.beq p.1 d)
def chFree (σ : St) (d : Nat) : Bool := σ.all fun e => cFree e.2.1 d

def holds (a : Act) (c : Ch) : Prop := ∀ p ∈ c, a.tmps.getD p.1 undef = .bool p.2

theorem holds_nil (a : Act) : holds a [] := fun _ h => by cases h
theorem holds_sub {a : Act} {c1 c2 : Ch} (h : subc c1 c2 = true) (hc : holds a c2) : holds a c1 := by
  intro p hp
  unfold subc at h
  rw [List.all_eq_true] at h
  have := h p hp
  rw [List.any_eq_true] at this
  obtain ⟨q, hq, hpq⟩ := this
  rw [Bool.and_eq_true] at hpq
  have h1 : p.1 = q.1 := Nat.eq_of_beq_eq_true hpq.1
  have h2 : p.2 = q.2 := by simpa using hpq.2
  rw [h1, h2]
  exact hc q hq

/-- What is known of a frame. -/
structure Knows (ok : Nat → Prop) (a : Act) (w : World) (n : Nat) (σ : St) (Df : List Deferred := []) : Prop where
  defers : a.defers = Df
  size : a.tmps.size = n
  ent : ∀ i c x, look σ i = some (c, x) → (holds a c → Rep ok w x (a.tmps.getD i undef)) ∧ (¬ holds a c → a.tmps.getD i undef = undef)

section
variable {ok ok' : Nat → Prop} {a : Act} {w w' : World} {n : Nat} {σ : St}

theorem Knows.go (hk : Knows ok a w n σ Df) (h : Goes ok ok' w w') : Knows ok' a w' n σ Df :=
  ⟨hk.defers, hk.size, fun i c x hl => ⟨fun hh => Rep.go h x _ ((hk.ent i c x hl).1 hh), (hk.ent i c x hl).2⟩⟩

theorem rep_lit {u v : Value} (h : v = u) : Rep ok w (.lit u) v := by simpa [Rep] using h

theorem Knows.rep (hk : Knows ok a w n σ Df) {c : Ch} (hc : holds a c) {x : Operand} {y : AV} (h : opvc σ c x = some y) : Rep ok w y (a.eval x) := by
  unfold opvc at h
  split at h
  · rename_i c1 v1 hx
    cases hs : subc c1 c with
    | false => simp [hs] at h
    | true =>
      simp only [hs, cond_true, Option.some.injEq] at h
      subst h
      cases x with
      | tmp t => exact (hk.ent t c1 v1 hx).1 (holds_sub hs hc)
      | const v => simp only [opv, Option.some.injEq, Prod.mk.injEq] at hx; rw [← hx.2]; exact rep_lit rfl
      | global g => simp only [opv, Option.some.injEq, Prod.mk.injEq] at hx; rw [← hx.2]; exact rep_lit rfl
      | func f => simp only [opv, Option.some.injEq, Prod.mk.injEq] at hx; rw [← hx.2]; exact rep_lit rfl
  · cases h

theorem Knows.val (hk : Knows ok a w n σ Df) {c : Ch} (hc : holds a c) {x : Operand} {v : Value} (h : opvc σ c x = some (.lit v)) : a.eval x = v := by
  have := hk.rep hc h
  simpa [Rep] using this

theorem getD_put (a : Act) (d i : Nat) (u : Value) (hd : d < a.tmps.size) :
    (a.put (some d) u).tmps.getD i undef = if i = d then u else a.tmps.getD i undef := by
  simp only [Act.put, Array.getD_eq_getD_getElem?, Array.getElem?_setIfInBounds]
  by_cases h : d = i
  · subst h; simp [hd]
  · have h' : ¬ i = d := fun e => h e.symm
    simp [h, h']

theorem cFree_ne {c : Ch} {d : Nat} (hf : cFree c d = true) {p : Nat × Bool} (hp : p ∈ c) : ¬ p.1 = d := by
  unfold cFree at hf
  rw [List.all_eq_true] at hf
  have := hf p hp
  intro e
  rw [e] at this
  simp at this

theorem holds_put {a : Act} {d : Nat} {u : Value} {c : Ch} (hd : d < a.tmps.size) (hf : cFree c d = true) : holds (a.put (some d) u) c ↔ holds a c := by
  unfold holds
  have key : ∀ p ∈ c, (a.put (some d) u).tmps.getD p.1 undef = a.tmps.getD p.1 undef := by
    intro p hp
    rw [getD_put a d p.1 u hd, if_neg (cFree_ne hf hp)]
  constructor
  · intro h p hp
    rw [← key p hp]
    exact h p hp
  · intro h p hp
    rw [key p hp]
    exact h p hp

theorem look_mem {σ : St} {i : Nat} {c : Ch} {v : AV} (h : look σ i = some (c, v)) : (i, c, v) ∈ σ := by
  induction σ with
  | nil => cases h
  | cons e r ih =>
    unfold look at h
    cases hb : Nat.beq e.1 i with
    | true =>
      simp only [hb, cond_true, Option.some.injEq] at h
      have : e.1 = i := Nat.eq_of_beq_eq_true hb
      obtain ⟨e1, e2⟩ := e
      simp only at this h
      subst this; subst h
      exact List.mem_cons_self
    | false =>
      simp only [hb, cond_false] at h
      exact List.mem_cons_of_mem _ (ih h)

theorem Knows.put (hk : Knows ok a w n σ Df) {d : Nat} (hd : Nat.blt d n = true) (hf : chFree σ d = true) {c : Ch} (hcf : cFree c d = true) {u : Value} {y : AV}
    (h1 : holds a c → Rep ok w y u) (h2 : ¬ holds a c → u = undef) : Knows ok (a.put (some d) u) w n ((d, c, y) :: σ) Df := by
  have hlt : d < a.tmps.size := by
    rw [hk.size]
    exact Nat.le_of_ble_eq_true hd
  refine ⟨hk.defers, by simp [Act.put, hk.size], ?_⟩
  intro i c' v' hl
  unfold look at hl
  cases hb : Nat.beq d i with
  | true =>
    simp only [hb, cond_true, Option.some.injEq, Prod.mk.injEq] at hl
    obtain ⟨rfl, rfl⟩ := hl
    have : d = i := Nat.eq_of_beq_eq_true hb
    subst this
    rw [getD_put a d d u hlt, if_pos rfl, holds_put hlt hcf]
    exact ⟨h1, h2⟩
  | false =>
    simp only [hb, cond_false] at hl
    have hne : ¬ i = d := by
      rintro rfl
      simp at hb
    rw [getD_put a d i u hlt, if_neg hne]
    have hcf' : cFree c' d = true := by
      have := look_mem hl
      unfold chFree at hf
      rw [List.all_eq_true] at hf
      exact hf _ this
    rw [holds_put hlt hcf']
    exact hk.ent i c' v' hl

/-- Every slot of one telling stands so in another one. -/
def Among (σ : St) : St → Prop
  | [] => True
  | e :: r => look σ e.1 = some e.2 ∧ Among σ r
theorem Among.look {σ : St} : ∀ {σ' : St}, Among σ σ' → ∀ {i x}, look σ' i = some x → FW.look σ i = some x
  | [], _, _, _, h => by cases h
  | e :: r, ⟨h1, h2⟩, i, x, h => by
    unfold FW.look at h
    cases hb : Nat.beq e.1 i with
    | true =>
      simp only [hb, cond_true, Option.some.injEq] at h
      have : e.1 = i := Nat.eq_of_beq_eq_true hb
      subst this; subst h
      exact h1
    | false =>
      simp only [hb, cond_false] at h
      exact Among.look h2 h
theorem Knows.sub (hk : Knows ok a w n σ Df) {σ' : St} (h : Among σ σ') : Knows ok a w n σ' Df := ⟨hk.defers, hk.size, fun i c x hl => hk.ent i c x (h.look hl)⟩
/-- A slot told otherwise. -/
theorem Knows.as (hk : Knows ok a w n σ Df) {i : Nat} {x y : AV} (h : look σ i = some ([], x)) (hy : ∀ v, Rep ok w x v → Rep ok w y v) : Knows ok a w n ((i, [], y) :: σ) Df := by
  refine ⟨hk.defers, hk.size, fun j c u hl => ?_⟩
  unfold look at hl
  cases hb : Nat.beq i j with
  | true =>
    simp only [hb, cond_true, Option.some.injEq, Prod.mk.injEq] at hl
    obtain ⟨rfl, rfl⟩ := hl
    have : i = j := Nat.eq_of_beq_eq_true hb
    subst this
    exact ⟨fun hh => hy _ ((hk.ent _ _ _ h).1 hh), (hk.ent _ _ _ h).2⟩
  | false =>
    simp only [hb, cond_false] at hl
    exact hk.ent _ _ _ hl
theorem Knows.get (hk : Knows ok a w n σ Df) {i : Nat} {x : AV} (h : look σ i = some ([], x)) : Rep ok w x (a.tmps.getD i undef) := (hk.ent _ _ _ h).1 (holds_nil a)
end

/-- What a chain's guards say, ahead of a statement. -/
def asmP (σ : St) : Ch → Prop → Prop
  | [], p => p
  | (j, want) :: c, p => match look σ j with
    | some (_, .lit (.bool b)) => b = want → asmP σ c p
    | _ => False

theorem asm_out {ok : Nat → Prop} {a : Act} {w : World} {n : Nat} {σ : St} (hk : Knows ok a w n σ Df) {c : Ch} {p : Prop} (hc : holds a c) (h : asmP σ c p) : p := by
  induction c with
  | nil => exact h
  | cons e c ih =>
    obtain ⟨j, want⟩ := e
    have hc' : holds a c := fun q hq => hc q (List.mem_cons_of_mem _ hq)
    have hj := hc (j, want) List.mem_cons_self
    unfold asmP at h
    split at h
    · rename_i c0 b hl
      have h0 := hk.ent _ _ _ hl
      have hb : b = want := by
        by_cases hh : holds a c0
        · have := h0.1 hh
          rw [hj] at this
          simp only [Rep, Value.bool.injEq] at this
          exact this.symm
        · have := h0.2 hh
          rw [hj] at this
          cases this
      exact ih hc' (h hb)
    · exact h.elim

/-! ### What a call owns -/
/-- What was there stays as it was, but for the blocks of M. -/
structure Frm (M : Nat → Prop) (w w' : World) : Prop where
  os : w'.os = w.os
  tape : w'.tape = w.tape
  output : w'.output = w.output
  size : w.heap.size ≤ w'.heap.size
  block : ∀ k, k < w.heap.size → ¬ M k → w'.heap[k]? = w.heap[k]?

/-- Nothing that was there has turned. -/
abbrev New (w w' : World) : Prop := Frm (fun _ => False) w w'

theorem Frm.refl (M : Nat → Prop) (w : World) : Frm M w w := ⟨rfl, rfl, rfl, Nat.le_refl _, fun _ _ _ => rfl⟩
theorem Frm.trans {M M' N : Nat → Prop} {w w1 w2 : World} (h : Frm M w w1) (h' : Frm M' w1 w2) (hM : ∀ k, M k → N k) (hM' : ∀ k, k < w.heap.size → M' k → N k) : Frm N w w2 :=
  ⟨h'.os.trans h.os, h'.tape.trans h.tape, h'.output.trans h.output, Nat.le_trans h.size h'.size, fun k hk hn =>
    (h'.block k (Nat.lt_of_lt_of_le hk h.size) (fun hm => hn (hM' k hk hm))).trans (h.block k hk (fun hm => hn (hM k hm)))⟩
theorem New.trans {w w1 w2 : World} (h : New w w1) (h' : New w1 w2) : New w w2 := Frm.trans h h' (fun _ h => h) (fun _ _ h => h)
theorem Frm.mono {M N : Nat → Prop} {w w' : World} (h : Frm M w w') (hM : ∀ k, M k → N k) : Frm N w w' := ⟨h.os, h.tape, h.output, h.size, fun k hk hn => h.block k hk (fun hm => hn (hM k hm))⟩
theorem New.refl (w : World) : New w w := Frm.refl _ w
theorem New.to {M : Nat → Prop} {w w' : World} (h : New w w') : Frm M w w' := h.mono fun _ h => h.elim
theorem New.drewN (w : World) (n : Nat) : New w (w.drewN n) := ⟨rfl, rfl, rfl, Nat.le_refl _, fun _ _ _ => rfl⟩
theorem New.alloc (w : World) (o : Obj) : New w (w.alloc o) := ⟨rfl, rfl, rfl, by simp, fun k hk _ => Below.heap_alloc w o k hk⟩
theorem New.below {w w' : World} (h : New w w') : Below w.heap.size w w' := ⟨h.os, h.tape, h.output, h.size, fun k hk => h.block k hk (fun h => h)⟩
theorem New.of_below {w w' : World} (h : Below w.heap.size w w') : New w w' := ⟨h.os, h.tape, h.output, h.size, fun k hk _ => h.block k hk⟩
theorem New.trans_below {w w1 w2 : World} (h : New w w1) (h' : Below w.heap.size w1 w2) : New w w2 :=
  ⟨h'.os.trans h.os, h'.tape.trans h.tape, h'.output.trans h.output, Nat.le_trans h.size h'.size, fun k hk hn => (h'.block k hk).trans (h.block k hk hn)⟩
theorem Frm.trans_below {M : Nat → Prop} {w w1 w2 : World} (h : Frm M w w1) (h' : Below w.heap.size w1 w2) : Frm M w w2 :=
  ⟨h'.os.trans h.os, h'.tape.trans h.tape, h'.output.trans h.output, Nat.le_trans h.size h'.size, fun k hk hn => (h'.block k hk).trans (h.block k hk hn)⟩
theorem Frm.of_grown {w w' : World} {row : Option Nat} (h : w.grownBy w' row) : Frm (fun k => row = some k) w w' := ⟨h.os, h.tape, h.output, h.size, fun k hk hn => h.block k hk (fun e => hn e.symm)⟩
theorem Frm.setRow (w : World) (g : Nat) (cs : Array Value) : Frm (fun k => k = g) w (w.setRow g cs) :=
  ⟨rfl, rfl, rfl, by simp [World.setRow], fun k _ hn => setRow_other w g k cs hn⟩
theorem Frm.setCell (w : World) (a : Addr) (v : Value) : Frm (fun k => k = a.block) w (w.setCell a v) :=
  ⟨rfl, rfl, rfl, by simp [World.setCell], fun k _ hn => Below.heap_setCell w a v k hn⟩

/-- A part of the memory that a call owns, and what stands in it; what it reads beside it stands in blocks that may be read. -/
structure It where
  foot : Nat → Prop
  P : (Nat → Prop) → World → Prop
  stable : ∀ {ok ok' : Nat → Prop} {w w' : World}, Goes ok ok' w w' → w.heap.size ≤ w'.heap.size → (∀ k, foot k → k < w.heap.size) → (∀ k, foot k → w'.heap[k]? = w.heap[k]?) → P ok w → P ok' w'

/-- The blocks that may be read: neither those of the callers nor those of the items. -/
def okM (M : Nat → Prop) (I : List It) (k : Nat) : Prop := ¬ M k ∧ ∀ it ∈ I, ¬ it.foot k

/-- A call's first world, and the blocks that its caller hands it. -/
structure Bs extends World where
  F : Nat → Prop
structure Own (M : Nat → Prop) (w0 : Bs) (w : World) (I : List It) : Prop where
  frm : Frm w0.F w0.toWorld w
  bd : ∀ k, M k → k < w0.heap.size
  ok : ∀ (i : Nat) it, I[i]? = some it → it.P (okM M I) w ∧ ∀ k, it.foot k → (w0.heap.size ≤ k ∨ w0.F k) ∧ k < w.heap.size
  dis : ∀ (i j : Nat) x y, i ≠ j → I[i]? = some x → I[j]? = some y → ∀ k, x.foot k → ¬ y.foot k
  apart : ∀ k, M k → ¬ w0.F k

theorem Own.start {M : Nat → Prop} {w : World} (h : ∀ k, M k → k < w.heap.size) : Own M ⟨w, fun _ => False⟩ w [] := ⟨New.refl w, h, fun i it h => by simp at h, fun i j x y _ h => by simp at h, fun _ _ h => h⟩

section
variable {M : Nat → Prop} {w0 : Bs} {w w' : World} {I I' : List It} {it it' : It} {j : Nat}
theorem Own.get (h : Own M w0 w I) (hj : I[j]? = some it) : it.P (okM M I) w := (h.ok j it hj).1
theorem Own.lt (h : Own M w0 w I) (hj : I[j]? = some it) {k : Nat} (hk : it.foot k) : (w0.heap.size ≤ k ∨ w0.F k) ∧ k < w.heap.size := (h.ok j it hj).2 k hk
/-- All blocks that are not the reader's to read lie below the world's end. -/
theorem Own.bound (h : Own M w0 w I) : ∀ k, ¬ okM M I k → k < w.heap.size := by
  intro k hk
  by_cases hM : M k
  · exact Nat.lt_of_lt_of_le (h.bd k hM) h.frm.size
  · unfold okM at hk
    have : ∃ it, it ∈ I ∧ it.foot k := by
      false_or_by_contra
      rename_i hn
      exact hk ⟨hM, fun it hi hf => hn ⟨it, hi, hf⟩⟩
    obtain ⟨it, hi, hf⟩ := this
    obtain ⟨i, hi'⟩ := List.mem_iff_getElem?.1 hi
    exact (h.lt hi' hf).2

theorem Goes.new (h : New w w') (ok : Nat → Prop) : Goes ok ok w w' := fun b hb hlt => ⟨hb, h.block b hlt (fun h => h)⟩

theorem Own.fresh (h : Own M w0 w I) (hw : New w w') : Own M w0 w' I := by
  refine ⟨Frm.trans h.frm hw (fun _ h => h) (fun _ _ h => h.elim), h.bd, fun i x hi => ?_, h.dis, h.apart⟩
  obtain ⟨h1, h3⟩ := h.ok i x hi
  exact ⟨x.stable (Goes.new hw _) hw.size (fun k hk => (h3 k hk).2) (fun k hk => hw.block k (h3 k hk).2 (fun h => h)) h1, fun k hk => ⟨(h3 k hk).1, Nat.lt_of_lt_of_le (h3 k hk).2 hw.size⟩⟩

theorem mem_set {l : List It} {j : Nat} {x y : It} (h : y ∈ l.set j x) : y = x ∨ ∃ i, i ≠ j ∧ l[i]? = some y := by
  obtain ⟨i, hi⟩ := List.mem_iff_getElem?.1 h
  rw [List.getElem?_set] at hi
  by_cases hij : j = i
  · subst hij
    rw [if_pos rfl] at hi
    split at hi
    · injection hi with hi; exact .inl hi.symm
    · cases hi
  · rw [if_neg hij] at hi
    exact .inr ⟨i, fun e => hij e.symm, hi⟩

/-- Behind a turn of one item what may be read stays. -/
theorem Goes.upd (h : Own M w0 w I) (hj : I[j]? = some it) (hw : Frm it.foot w w') (hf : ∀ k, it'.foot k → (it.foot k ∨ w.heap.size ≤ k) ∧ k < w'.heap.size) : Goes (okM M I) (okM M (I.set j it')) w w' := by
  intro b hb hlt
  refine ⟨⟨hb.1, fun x hx hfx => ?_⟩, hw.block b hlt (hb.2 it (List.mem_of_getElem? hj))⟩
  rcases mem_set hx with rfl | ⟨i, _, hi⟩
  · rcases (hf b hfx).1 with h1 | h1
    · exact hb.2 it (List.mem_of_getElem? hj) h1
    · omega
  · exact hb.2 x (List.mem_of_getElem? hi) hfx

theorem Own.upd (h : Own M w0 w I) (hj : I[j]? = some it) (hw : Frm it.foot w w') (hP : it'.P (okM M (I.set j it')) w') (hf : ∀ k, it'.foot k → (it.foot k ∨ w.heap.size ≤ k) ∧ k < w'.heap.size) : Own M w0 w' (I.set j it') := by
  have hlt : j < I.length := (List.getElem?_eq_some_iff.1 hj).1
  have hgo := Goes.upd h hj hw hf
  refine ⟨Frm.trans h.frm hw (fun _ h => h) (fun k hk hm => (h.lt hj hm).1.resolve_left (by omega)), h.bd, ?_, ?_, h.apart⟩
  · intro i x hi
    rw [List.getElem?_set] at hi
    by_cases hij : j = i
    · subst hij
      rw [if_pos rfl, if_pos hlt] at hi
      injection hi with hi
      subst hi
      refine ⟨hP, fun k hk => ⟨?_, (hf k hk).2⟩⟩
      rcases (hf k hk).1 with h1 | h1
      · exact (h.lt hj h1).1
      · have := h.frm.size; left; omega
    · rw [if_neg hij] at hi
      obtain ⟨h1, h3⟩ := h.ok i x hi
      exact ⟨x.stable hgo hw.size (fun k hk => (h3 k hk).2) (fun k hk => hw.block k (h3 k hk).2 (h.dis i j x it (fun e => hij e.symm) hi hj k hk)) h1, fun k hk => ⟨(h3 k hk).1, Nat.lt_of_lt_of_le (h3 k hk).2 hw.size⟩⟩
  · intro p q x y hpq hp hq k hx hy
    rw [List.getElem?_set] at hp hq
    by_cases hjp : j = p
    · subst hjp
      rw [if_pos rfl, if_pos hlt] at hp
      injection hp with hp
      subst hp
      rw [if_neg hpq] at hq
      rcases (hf k hx).1 with h1 | h1
      · exact h.dis j q it y hpq hj hq k h1 hy
      · have := (h.lt hq hy).2; omega
    · rw [if_neg hjp] at hp
      by_cases hjq : j = q
      · subst hjq
        rw [if_pos rfl, if_pos hlt] at hq
        injection hq with hq
        subst hq
        rcases (hf k hy).1 with h1 | h1
        · exact h.dis p j x it hpq hp hj k hx h1
        · have := (h.lt hp hx).2; omega
      · rw [if_neg hjq] at hq
        exact h.dis p q x y hpq hp hq k hx hy

theorem Goes.push (hw : New w w') (hf : ∀ k, it'.foot k → w.heap.size ≤ k ∧ k < w'.heap.size) : Goes (okM M I) (okM M (it' :: I)) w w' := by
  intro b hb hlt
  refine ⟨⟨hb.1, fun x hx hfx => ?_⟩, hw.block b hlt (fun h => h)⟩
  rcases List.mem_cons.1 hx with rfl | hx
  · have := (hf b hfx).1; omega
  · exact hb.2 x hx hfx

theorem Own.push (h : Own M w0 w I) (hw : New w w') (hP : it'.P (okM M (it' :: I)) w') (hf : ∀ k, it'.foot k → w.heap.size ≤ k ∧ k < w'.heap.size) : Own M w0 w' (it' :: I) := by
  have hgo : Goes (okM M I) (okM M (it' :: I)) w w' := Goes.push hw hf
  refine ⟨Frm.trans h.frm hw (fun _ h => h) (fun _ _ h => h.elim), h.bd, ?_, ?_, h.apart⟩
  · intro i x hi
    cases i with
    | zero =>
      simp only [List.getElem?_cons_zero, Option.some.injEq] at hi
      subst hi
      exact ⟨hP, fun k hk => ⟨by have := (hf k hk).1; have := h.frm.size; left; omega, (hf k hk).2⟩⟩
    | succ i =>
      obtain ⟨h1, h3⟩ := h.ok i x (by simpa using hi)
      exact ⟨x.stable hgo hw.size (fun k hk => (h3 k hk).2) (fun k hk => hw.block k (h3 k hk).2 (fun h => h)) h1, fun k hk => ⟨(h3 k hk).1, Nat.lt_of_lt_of_le (h3 k hk).2 hw.size⟩⟩
  · intro p q x y hpq hp hq k hx hy
    cases p with
    | zero =>
      simp only [List.getElem?_cons_zero, Option.some.injEq] at hp
      subst hp
      cases q with
      | zero => exact hpq rfl
      | succ q =>
        have h1 := (h.lt (j := q) (by simpa using hq) hy).2
        have h2 := (hf k hx).1
        omega
    | succ p =>
      cases q with
      | zero =>
        simp only [List.getElem?_cons_zero, Option.some.injEq] at hq
        subst hq
        have h1 := (h.lt (j := p) (by simpa using hp) hx).2
        have h2 := (hf k hy).1
        omega
      | succ q => exact h.dis p q x y (by omega) (by simpa using hp) (by simpa using hq) k hx hy

theorem mem_eraseIdx {l : List It} {j : Nat} {y : It} (h : y ∈ l.eraseIdx j) : y ∈ l := List.mem_of_mem_eraseIdx h
theorem Goes.drop (w : World) (I : List It) (j : Nat) : Goes (okM M I) (okM M (I.eraseIdx j)) w w := fun b hb _ => ⟨⟨hb.1, fun x hx => hb.2 x (mem_eraseIdx hx)⟩, rfl⟩
/-- An item is let go. -/
theorem Own.drop (h : Own M w0 w I) (j : Nat) : Own M w0 w (I.eraseIdx j) := by
  refine ⟨h.frm, h.bd, fun i x hi => ?_, fun p q x y hpq hp hq => ?_, h.apart⟩
  · rw [List.getElem?_eraseIdx] at hi
    have key : ∀ i' : Nat, I[i']? = some x → x.P (okM M (I.eraseIdx j)) w ∧ ∀ k, x.foot k → (w0.heap.size ≤ k ∨ w0.F k) ∧ k < w.heap.size := by
      intro i' hi'
      obtain ⟨h1, h3⟩ := h.ok i' x hi'
      exact ⟨x.stable (Goes.drop w I j) (Nat.le_refl _) (fun k hk => (h3 k hk).2) (fun k hk => rfl) h1, h3⟩
    split at hi <;> exact key _ hi
  · rw [List.getElem?_eraseIdx] at hp hq
    split at hp <;> split at hq
    · exact h.dis p q x y hpq hp hq
    · exact h.dis p (q + 1) x y (by omega) hp hq
    · exact h.dis (p + 1) q x y (by omega) hp hq
    · exact h.dis (p + 1) (q + 1) x y (by omega) hp hq
/-- An item is told otherwise. -/
theorem Own.conv (h : Own M w0 w I) (hj : I[j]? = some it) (hP : it.P (okM M I) w → it'.P (okM M (I.set j it')) w) (hf : ∀ k, it'.foot k → it.foot k) : Own M w0 w (I.set j it') :=
  h.upd hj (Frm.refl _ w) (hP (h.get hj)) fun k hk => ⟨.inl (hf k hk), (h.lt hj (hf k hk)).2⟩
end

/-! ### A state: what is owned, and what the slots hold -/
structure S (M : Nat → Prop) (w0 : Bs) (a : Act) (w : World) (n : Nat) (I : List It) (σ : St) (Df : List Deferred := []) : Prop where
  own : Own M w0 w I
  kn : Knows (okM M I) a w n σ Df

section
variable {M : Nat → Prop} {w0 : Bs} {w w' : World} {a : Act} {n : Nat} {I : List It} {σ : St} {it it' : It} {j : Nat}
theorem S.fresh (h : S M w0 a w n I σ Df) (hw : New w w') : S M w0 a w' n I σ Df := ⟨h.own.fresh hw, h.kn.go (Goes.new hw _)⟩
theorem S.push (h : S M w0 a w n I σ Df) (hw : New w w') (hP : it'.P (okM M (it' :: I)) w') (hf : ∀ k, it'.foot k → w.heap.size ≤ k ∧ k < w'.heap.size) : S M w0 a w' n (it' :: I) σ Df :=
  ⟨h.own.push hw hP hf, h.kn.go (Goes.push hw hf)⟩
theorem S.upd (h : S M w0 a w n I σ Df) (hj : I[j]? = some it) (hw : Frm it.foot w w') (hP : it'.P (okM M (I.set j it')) w') (hf : ∀ k, it'.foot k → (it.foot k ∨ w.heap.size ≤ k) ∧ k < w'.heap.size) : S M w0 a w' n (I.set j it') σ Df :=
  ⟨h.own.upd hj hw hP hf, h.kn.go (Goes.upd h.own hj hw hf)⟩
theorem S.drop (h : S M w0 a w n I σ Df) (j : Nat) : S M w0 a w n (I.eraseIdx j) σ Df := ⟨h.own.drop j, h.kn.go (Goes.drop w I j)⟩
theorem S.sub (h : S M w0 a w n I σ Df) {σ' : St} (hs : Among σ σ') : S M w0 a w n I σ' Df := ⟨h.own, h.kn.sub hs⟩
theorem S.conv (h : S M w0 a w n I σ Df) (hj : I[j]? = some it) (hP : ∀ ok, Goes (okM M I) ok w w → it.P (okM M I) w → it'.P ok w) (hf : ∀ k, it'.foot k → it.foot k) : S M w0 a w n (I.set j it') σ Df :=
  have hg : Goes (okM M I) (okM M (I.set j it')) w w := Goes.upd h.own hj (Frm.refl _ w) fun k hk => ⟨.inl (hf k hk), (h.own.lt hj (hf k hk)).2⟩
  ⟨h.own.conv hj (hP _ hg) hf, h.kn.go hg⟩
theorem S.as (h : S M w0 a w n I σ Df) {i : Nat} {x y : AV} (hl : look σ i = some ([], x)) (hy : ∀ v, Rep (okM M I) w x v → Rep (okM M I) w y v) : S M w0 a w n I ((i, [], y) :: σ) Df := ⟨h.own, h.kn.as hl hy⟩
end

/-- What a call hands back: a value that is so, in a world in which all that was there is as it was. -/
def Ret (M : Nat → Prop) (w : World) (y : AV) (e : Ending) (w' : World) : Prop := ∃ v, e = .returned v ∧ New w w' ∧ Rep (fun b => ¬ M b) w' y v

def RetB (M : Nat → Prop) (w0 : Bs) (y : AV) (e : Ending) (w' : World) : Prop := ∃ v, e = .returned v ∧ Frm w0.F w0.toWorld w' ∧ Rep (fun b => ¬ M b) w' y v

/-- The contract of a function that turns nothing: of such arguments it makes such a value, whatever its callers own. -/
def Ok (P : Program) (f : FuncId) (xs : List AV) (y : AV) : Prop :=
  ∀ (M : Nat → Prop) (w : World) (vs : Array Value), (∀ b, M b → b < w.heap.size) → RepL (fun b => ¬ M b) w xs vs.toList → Calls P f vs w (Ret M w y)

/-! ### What is handed in and comes back -/
def footL (I : List It) (k : Nat) : Prop := ∃ it ∈ I, it.foot k
/-- What a call hands back, where it was handed items. -/
def RetH (M : Nat → Prop) (w0 : Bs) (Q : AV → List It → Prop) (e : Ending) (w' : World) : Prop := ∃ v y I, e = .returned v ∧ Q y I ∧ Own M w0 w' I ∧ Rep (okM M I) w' y v
/-- The contract of a function that is handed items: it hands back a value, and items. -/
def OkH (P : Program) (f : FuncId) (xs : List AV) (I : List It) (Q : AV → List It → Prop) : Prop :=
  ∀ (M : Nat → Prop) (w : World) (vs : Array Value), Own M ⟨w, footL I⟩ w I → RepL (okM M I) w xs vs.toList → Calls P f vs w (RetH M ⟨w, footL I⟩ Q)
end Go.Proofs.Ytaoffkhflmndhaa.FW

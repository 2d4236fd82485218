/- Put together by pack.py (my own program) of texts of mine: Av, AvOps, AvFun, AvMem, AvLaw, Ho, AvManD, Hsk, AvRow, Hv, Hm, Hp, Hq, Hmf, Shelf, AvMan, Hl, Iter, Hk, Har, Hde, Hg, Hc, Hnl, AvDraw, AvMore. -/
import Derived.WalkKit
import Derived.Below
import Derived.Deep.QuietTactic
import Derived.IntWalk
import Derived.Lib.Strings
import Derived.Laws.AppendOwn
import Derived.Deep.LoopGhost
import Derived.Laws.CopyRow
import Derived.Laws.Tables
import Derived.Laws.Rows
import Derived.Laws.ResultCell
import Derived.Laws.Externs
import Derived.Laws.BytesString
import Derived.Laws.BytesArg
import Derived.Lib.ConvBytes
import Derived.Lib.AppendStr
import Derived.Maps.AppendAt
import Derived.Laws.OwnMore
import Derived.Deep.AppendSrc
import Derived.Great.BuildSlice
import Derived.Test.YtfbkgaandmebaaaGreatRows
import Derived.ProofKit
import Derived.OpenShut
import Derived.ShutString
import Derived.ChangeSame
import Derived.Deep.Slices
import Derived.Laws.Cover2
import Derived.Carry
import Derived.Lib.Bytealg
import Derived.MapKept
import Derived.Shelf.Strings.Builder1
import Derived.Shelf.Strings.Builder2
import Derived.Shelf.Small.Bits
import Derived.Shelf.Small.Wraps
import Derived.Shelf.Strings.BuilderF
import Derived.Shelf.Strings.BuilderK
import Derived.Shelf.Strings.Builder2Cap
import Derived.Shelf.Strconv.Itoa0
import Derived.Shelf.Sort.Plain
import Derived.Shelf.Strings.Prefix
import Derived.Shelf.Bits.Mul64
import Derived.Shelf.Strings.Repeat
import Derived.Shelf.Strings.BuilderCap
import Derived.Ground.Names2Prog
import Derived.Shelf.Slices.SearchI
import Derived.Shelf.Slices.In.SortNone
import Derived.Test.YtfbkgaandmebaaaGreatProg
import Derived.KernelRfl
import Derived.Shelf.SlGeneric
import Derived.Shelf.SlIterI.Nil
import Derived.Shelf.SortM.Plain
import Derived.Shelf.SortM.SortNone
import Derived.Ground.GgzProg
import Derived.Ground.SlgmProg
import Derived.Maps.OwnSet
import Derived.ChangeMaps
import Derived.Lib.SliceRun
import Derived.Orders
namespace Go.Proofs.YtfbkgaandmebaaaGreat.FW
variable {Df : List Deferred}
open Go.RowKit
set_option linter.unusedVariables false
inductive AV where
  | lit (v : Value)
  | row (xs : List (List AV))
  | agg (cs : List AV)
  | tup (cs : List AV)
  | ref (cs : List AV)
  | clo (f : Nat) (cs : List AV)
mutual
def Rep (ok : Nat → Prop) (w : World) : AV → Value → Prop
  | .lit u, v => v = u
  | .row xs, v => ∃ a cap, v = .slice a xs.length cap ∧ xs.length ≤ cap ∧ (xs = [] ∨ ∃ b off cs e fr, a = some ⟨b, off, none⟩ ∧ ok b ∧ w.heap[b]? = some (.cells cs e fr) ∧ RepR ok w xs (cs.toList.drop off))
  | .agg cs, v => ∃ vs, v = .agg vs ∧ RepL ok w cs vs.toList
  | .tup cs, v => ∃ vs, v = .tuple vs ∧ RepL ok w cs vs.toList
  | .ref cs, v => ∃ b off arr e fr, v = .pointer (some ⟨b, off, none⟩) ∧ ok b ∧ w.heap[b]? = some (.cells arr e fr) ∧ RepP ok w cs (arr.toList.drop off)
  | .clo f cs, v => ∃ vs, v = .func (.func f) #[] vs ∧ RepL ok w cs vs.toList
def RepL (ok : Nat → Prop) (w : World) : List AV → List Value → Prop
  | [], vs => vs = []
  | c :: cs, vs => ∃ v r, vs = v :: r ∧ Rep ok w c v ∧ RepL ok w cs r

def RepP (ok : Nat → Prop) (w : World) : List AV → List Value → Prop
  | [], _ => True
  | c :: cs, vs => ∃ v r, vs = v :: r ∧ Rep ok w c v ∧ RepP ok w cs r

def RepR (ok : Nat → Prop) (w : World) : List (List AV) → List Value → Prop
  | [], _ => True
  | x :: xs, vs => RepP ok w x vs ∧ RepR ok w xs (vs.drop x.length)
end
def Goes (ok ok' : Nat → Prop) (w w' : World) : Prop := ∀ b, ok b → b < w.heap.size → ok' b ∧ w'.heap[b]? = w.heap[b]?
theorem heap_lt {w : World} {b : Nat} {o : Obj} (h : w.heap[b]? = some o) : b < w.heap.size := (Array.getElem?_eq_some_iff.1 h).1
section
variable {ok ok' : Nat → Prop} {w w' : World}
mutual
theorem Rep.go (h : Goes ok ok' w w') : ∀ (x : AV) (v : Value), Rep ok w x v → Rep ok' w' x v
  | .lit u, v, hr => by simpa [Rep] using hr
  | .row xs, v, hr => by
    simp only [Rep] at hr ⊢
    obtain ⟨a, cap, hv, hcp, hx⟩ := hr
    refine ⟨a, cap, hv, hcp, hx.imp id ?_⟩
    rintro ⟨b, off, cs, e, fr, ha, hb, hh, hR⟩
    obtain ⟨h1, h2⟩ := h b hb (heap_lt hh)
    exact ⟨b, off, cs, e, fr, ha, h1, h2.trans hh, RepR.go h xs _ hR⟩
  | .agg cs, v, hr => by
    simp only [Rep] at hr ⊢
    obtain ⟨vs, hv, hL⟩ := hr
    exact ⟨vs, hv, RepL.go h cs _ hL⟩
  | .tup cs, v, hr => by
    simp only [Rep] at hr ⊢
    obtain ⟨vs, hv, hL⟩ := hr
    exact ⟨vs, hv, RepL.go h cs _ hL⟩
  | .ref cs, v, hr => by
    simp only [Rep] at hr ⊢
    obtain ⟨b, off, arr, e, fr, hv, hb, hh, hL⟩ := hr
    obtain ⟨h1, h2⟩ := h b hb (heap_lt hh)
    exact ⟨b, off, arr, e, fr, hv, h1, h2.trans hh, RepP.go h cs _ hL⟩
  | .clo f cs, v, hr => by
    simp only [Rep] at hr ⊢
    obtain ⟨vs, hv, hL⟩ := hr
    exact ⟨vs, hv, RepL.go h cs _ hL⟩
theorem RepL.go (h : Goes ok ok' w w') : ∀ (cs : List AV) (vs : List Value), RepL ok w cs vs → RepL ok' w' cs vs
  | [], vs, hr => by simpa [RepL] using hr
  | c :: cs, vs, hr => by
    simp only [RepL] at hr ⊢
    obtain ⟨v, r, hv, h1, h2⟩ := hr
    exact ⟨v, r, hv, Rep.go h c v h1, RepL.go h cs r h2⟩
theorem RepP.go (h : Goes ok ok' w w') : ∀ (cs : List AV) (vs : List Value), RepP ok w cs vs → RepP ok' w' cs vs
  | [], vs, hr => by simp [RepP]
  | c :: cs, vs, hr => by
    simp only [RepP] at hr ⊢
    obtain ⟨v, r, hv, h1, h2⟩ := hr
    exact ⟨v, r, hv, Rep.go h c v h1, RepP.go h cs r h2⟩
theorem RepR.go (h : Goes ok ok' w w') : ∀ (xs : List (List AV)) (vs : List Value), RepR ok w xs vs → RepR ok' w' xs vs
  | [], vs, hr => by simp [RepR]
  | x :: xs, vs, hr => by
    simp only [RepR] at hr ⊢
    exact ⟨RepP.go h x vs hr.1, RepR.go h xs _ hr.2⟩
end
end
abbrev Ch := List (Nat × Bool)
abbrev St := List (Nat × Ch × AV)
def look : St → Nat → Option (Ch × AV)
  | [], _ => none
  | e :: r, i => bif Nat.beq e.1 i then some e.2 else look r i
def subc (c1 c2 : Ch) : Bool := c1.all fun p => c2.any fun q => Nat.beq p.1 q.1 && (p.2 == q.2)
def opv (σ : St) : Operand → Option (Ch × AV)
  | .tmp t => look σ t
  | .const v => some ([], .lit v)
  | .global g => some ([], .lit (.pointer (some ⟨g, 0, none⟩)))
  | .func f => some ([], .lit (.func (.func f) #[] #[]))
def opvc (σ : St) (c : Ch) (x : Operand) : Option AV :=
  match opv σ x with
  | some (c1, v) => bif subc c1 c then some v else none
  | none => none
def cFree (c : Ch) (d : Nat) : Bool := c.all fun p => !(Nat.beq p.1 d)
def chFree (σ : St) (d : Nat) : Bool := σ.all fun e => cFree e.2.1 d
def holds (a : Act) (c : Ch) : Prop := ∀ p ∈ c, a.tmps.getD p.1 undef = .bool p.2
theorem holds_nil (a : Act) : holds a [] := fun _ h => by cases h
theorem holds_sub {a : Act} {c1 c2 : Ch} (h : subc c1 c2 = true) (hc : holds a c2) : holds a c1 := by
  intro p hp
  unfold subc at h
  rw [List.all_eq_true] at h
  have := h p hp
  rw [List.any_eq_true] at this
  obtain ⟨q, hq, hpq⟩ := this
  rw [Bool.and_eq_true] at hpq
  have h1 : p.1 = q.1 := Nat.eq_of_beq_eq_true hpq.1
  have h2 : p.2 = q.2 := by simpa using hpq.2
  rw [h1, h2]
  exact hc q hq
structure Knows (ok : Nat → Prop) (a : Act) (w : World) (n : Nat) (σ : St) (Df : List Deferred := []) : Prop where
  defers : a.defers = Df
  size : a.tmps.size = n
  ent : ∀ i c x, look σ i = some (c, x) → (holds a c → Rep ok w x (a.tmps.getD i undef)) ∧ (¬ holds a c → a.tmps.getD i undef = undef)
section
variable {ok ok' : Nat → Prop} {a : Act} {w w' : World} {n : Nat} {σ : St}
theorem Knows.go (hk : Knows ok a w n σ Df) (h : Goes ok ok' w w') : Knows ok' a w' n σ Df :=
  ⟨hk.defers, hk.size, fun i c x hl => ⟨fun hh => Rep.go h x _ ((hk.ent i c x hl).1 hh), (hk.ent i c x hl).2⟩⟩
theorem rep_lit {u v : Value} (h : v = u) : Rep ok w (.lit u) v := by simpa [Rep] using h
theorem Knows.rep (hk : Knows ok a w n σ Df) {c : Ch} (hc : holds a c) {x : Operand} {y : AV} (h : opvc σ c x = some y) : Rep ok w y (a.eval x) := by
  unfold opvc at h
  split at h
  · rename_i c1 v1 hx
    cases hs : subc c1 c with
    | false => simp [hs] at h
    | true =>
      simp only [hs, cond_true, Option.some.injEq] at h
      subst h
      cases x with
      | tmp t => exact (hk.ent t c1 v1 hx).1 (holds_sub hs hc)
      | const v => simp only [opv, Option.some.injEq, Prod.mk.injEq] at hx; rw [← hx.2]; exact rep_lit rfl
      | global g => simp only [opv, Option.some.injEq, Prod.mk.injEq] at hx; rw [← hx.2]; exact rep_lit rfl
      | func f => simp only [opv, Option.some.injEq, Prod.mk.injEq] at hx; rw [← hx.2]; exact rep_lit rfl
  · cases h
theorem Knows.val (hk : Knows ok a w n σ Df) {c : Ch} (hc : holds a c) {x : Operand} {v : Value} (h : opvc σ c x = some (.lit v)) : a.eval x = v := by
  have := hk.rep hc h
  simpa [Rep] using this
theorem getD_put (a : Act) (d i : Nat) (u : Value) (hd : d < a.tmps.size) :
    (a.put (some d) u).tmps.getD i undef = if i = d then u else a.tmps.getD i undef := by
  simp only [Act.put, Array.getD_eq_getD_getElem?, Array.getElem?_setIfInBounds]
  by_cases h : d = i
  · subst h; simp [hd]
  · have h' : ¬ i = d := fun e => h e.symm
    simp [h, h']
theorem cFree_ne {c : Ch} {d : Nat} (hf : cFree c d = true) {p : Nat × Bool} (hp : p ∈ c) : ¬ p.1 = d := by
  unfold cFree at hf
  rw [List.all_eq_true] at hf
  have := hf p hp
  intro e
  rw [e] at this
  simp at this
theorem holds_put {a : Act} {d : Nat} {u : Value} {c : Ch} (hd : d < a.tmps.size) (hf : cFree c d = true) : holds (a.put (some d) u) c ↔ holds a c := by
  unfold holds
  have key : ∀ p ∈ c, (a.put (some d) u).tmps.getD p.1 undef = a.tmps.getD p.1 undef := by
    intro p hp
    rw [getD_put a d p.1 u hd, if_neg (cFree_ne hf hp)]
  constructor
  · intro h p hp
    rw [← key p hp]
    exact h p hp
  · intro h p hp
    rw [key p hp]
    exact h p hp
theorem look_mem {σ : St} {i : Nat} {c : Ch} {v : AV} (h : look σ i = some (c, v)) : (i, c, v) ∈ σ := by
  induction σ with
  | nil => cases h
  | cons e r ih =>
    unfold look at h
    cases hb : Nat.beq e.1 i with
    | true =>
      simp only [hb, cond_true, Option.some.injEq] at h
      have : e.1 = i := Nat.eq_of_beq_eq_true hb
      obtain ⟨e1, e2⟩ := e
      simp only at this h
      subst this; subst h
      exact List.mem_cons_self
    | false =>
      simp only [hb, cond_false] at h
      exact List.mem_cons_of_mem _ (ih h)
theorem Knows.put (hk : Knows ok a w n σ Df) {d : Nat} (hd : Nat.blt d n = true) (hf : chFree σ d = true) {c : Ch} (hcf : cFree c d = true) {u : Value} {y : AV}
    (h1 : holds a c → Rep ok w y u) (h2 : ¬ holds a c → u = undef) : Knows ok (a.put (some d) u) w n ((d, c, y) :: σ) Df := by
  have hlt : d < a.tmps.size := by
    rw [hk.size]
    exact Nat.le_of_ble_eq_true hd
  refine ⟨hk.defers, by simp [Act.put, hk.size], ?_⟩
  intro i c' v' hl
  unfold look at hl
  cases hb : Nat.beq d i with
  | true =>
    simp only [hb, cond_true, Option.some.injEq, Prod.mk.injEq] at hl
    obtain ⟨rfl, rfl⟩ := hl
    have : d = i := Nat.eq_of_beq_eq_true hb
    subst this
    rw [getD_put a d d u hlt, if_pos rfl, holds_put hlt hcf]
    exact ⟨h1, h2⟩
  | false =>
    simp only [hb, cond_false] at hl
    have hne : ¬ i = d := by
      rintro rfl
      simp at hb
    rw [getD_put a d i u hlt, if_neg hne]
    have hcf' : cFree c' d = true := by
      have := look_mem hl
      unfold chFree at hf
      rw [List.all_eq_true] at hf
      exact hf _ this
    rw [holds_put hlt hcf']
    exact hk.ent i c' v' hl
def Among (σ : St) : St → Prop
  | [] => True
  | e :: r => look σ e.1 = some e.2 ∧ Among σ r
theorem Among.look {σ : St} : ∀ {σ' : St}, Among σ σ' → ∀ {i x}, look σ' i = some x → FW.look σ i = some x
  | [], _, _, _, h => by cases h
  | e :: r, ⟨h1, h2⟩, i, x, h => by
    unfold FW.look at h
    cases hb : Nat.beq e.1 i with
    | true =>
      simp only [hb, cond_true, Option.some.injEq] at h
      have : e.1 = i := Nat.eq_of_beq_eq_true hb
      subst this; subst h
      exact h1
    | false =>
      simp only [hb, cond_false] at h
      exact Among.look h2 h
theorem Knows.sub (hk : Knows ok a w n σ Df) {σ' : St} (h : Among σ σ') : Knows ok a w n σ' Df := ⟨hk.defers, hk.size, fun i c x hl => hk.ent i c x (h.look hl)⟩
theorem Knows.as (hk : Knows ok a w n σ Df) {i : Nat} {x y : AV} (h : look σ i = some ([], x)) (hy : ∀ v, Rep ok w x v → Rep ok w y v) : Knows ok a w n ((i, [], y) :: σ) Df := by
  refine ⟨hk.defers, hk.size, fun j c u hl => ?_⟩
  unfold look at hl
  cases hb : Nat.beq i j with
  | true =>
    simp only [hb, cond_true, Option.some.injEq, Prod.mk.injEq] at hl
    obtain ⟨rfl, rfl⟩ := hl
    have : i = j := Nat.eq_of_beq_eq_true hb
    subst this
    exact ⟨fun hh => hy _ ((hk.ent _ _ _ h).1 hh), (hk.ent _ _ _ h).2⟩
  | false =>
    simp only [hb, cond_false] at hl
    exact hk.ent _ _ _ hl
theorem Knows.get (hk : Knows ok a w n σ Df) {i : Nat} {x : AV} (h : look σ i = some ([], x)) : Rep ok w x (a.tmps.getD i undef) := (hk.ent _ _ _ h).1 (holds_nil a)
end
def asmP (σ : St) : Ch → Prop → Prop
  | [], p => p
  | (j, want) :: c, p => match look σ j with
    | some (_, .lit (.bool b)) => b = want → asmP σ c p
    | _ => False
theorem asm_out {ok : Nat → Prop} {a : Act} {w : World} {n : Nat} {σ : St} (hk : Knows ok a w n σ Df) {c : Ch} {p : Prop} (hc : holds a c) (h : asmP σ c p) : p := by
  induction c with
  | nil => exact h
  | cons e c ih =>
    obtain ⟨j, want⟩ := e
    have hc' : holds a c := fun q hq => hc q (List.mem_cons_of_mem _ hq)
    have hj := hc (j, want) List.mem_cons_self
    unfold asmP at h
    split at h
    · rename_i c0 b hl
      have h0 := hk.ent _ _ _ hl
      have hb : b = want := by
        by_cases hh : holds a c0
        · have := h0.1 hh
          rw [hj] at this
          simp only [Rep, Value.bool.injEq] at this
          exact this.symm
        · have := h0.2 hh
          rw [hj] at this
          cases this
      exact ih hc' (h hb)
    · exact h.elim
structure Frm (M : Nat → Prop) (w w' : World) : Prop where
  os : w'.os = w.os
  tape : w'.tape = w.tape
  output : w'.output = w.output
  size : w.heap.size ≤ w'.heap.size
  block : ∀ k, k < w.heap.size → ¬ M k → w'.heap[k]? = w.heap[k]?
abbrev New (w w' : World) : Prop := Frm (fun _ => False) w w'
theorem Frm.refl (M : Nat → Prop) (w : World) : Frm M w w := ⟨rfl, rfl, rfl, Nat.le_refl _, fun _ _ _ => rfl⟩
theorem Frm.trans {M M' N : Nat → Prop} {w w1 w2 : World} (h : Frm M w w1) (h' : Frm M' w1 w2) (hM : ∀ k, M k → N k) (hM' : ∀ k, k < w.heap.size → M' k → N k) : Frm N w w2 :=
  ⟨h'.os.trans h.os, h'.tape.trans h.tape, h'.output.trans h.output, Nat.le_trans h.size h'.size, fun k hk hn =>
    (h'.block k (Nat.lt_of_lt_of_le hk h.size) (fun hm => hn (hM' k hk hm))).trans (h.block k hk (fun hm => hn (hM k hm)))⟩
theorem New.trans {w w1 w2 : World} (h : New w w1) (h' : New w1 w2) : New w w2 := Frm.trans h h' (fun _ h => h) (fun _ _ h => h)
theorem Frm.mono {M N : Nat → Prop} {w w' : World} (h : Frm M w w') (hM : ∀ k, M k → N k) : Frm N w w' := ⟨h.os, h.tape, h.output, h.size, fun k hk hn => h.block k hk (fun hm => hn (hM k hm))⟩
theorem New.refl (w : World) : New w w := Frm.refl _ w
theorem New.drewN (w : World) (n : Nat) : New w (w.drewN n) := ⟨rfl, rfl, rfl, Nat.le_refl _, fun _ _ _ => rfl⟩
theorem New.alloc (w : World) (o : Obj) : New w (w.alloc o) := ⟨rfl, rfl, rfl, by simp, fun k hk _ => Below.heap_alloc w o k hk⟩
theorem New.below {w w' : World} (h : New w w') : Below w.heap.size w w' := ⟨h.os, h.tape, h.output, h.size, fun k hk => h.block k hk (fun h => h)⟩
theorem New.of_below {w w' : World} (h : Below w.heap.size w w') : New w w' := ⟨h.os, h.tape, h.output, h.size, fun k hk _ => h.block k hk⟩
theorem Frm.of_grown {w w' : World} {row : Option Nat} (h : w.grownBy w' row) : Frm (fun k => row = some k) w w' := ⟨h.os, h.tape, h.output, h.size, fun k hk hn => h.block k hk (fun e => hn e.symm)⟩
theorem Frm.setRow (w : World) (g : Nat) (cs : Array Value) : Frm (fun k => k = g) w (w.setRow g cs) :=
  ⟨rfl, rfl, rfl, by simp [World.setRow], fun k _ hn => setRow_other w g k cs hn⟩
structure It where
  foot : Nat → Prop
  P : (Nat → Prop) → World → Prop
  stable : ∀ {ok ok' : Nat → Prop} {w w' : World}, Goes ok ok' w w' → w.heap.size ≤ w'.heap.size → (∀ k, foot k → k < w.heap.size) → (∀ k, foot k → w'.heap[k]? = w.heap[k]?) → P ok w → P ok' w'
def okM (M : Nat → Prop) (I : List It) (k : Nat) : Prop := ¬ M k ∧ ∀ it ∈ I, ¬ it.foot k
structure Bs extends World where
  F : Nat → Prop
structure Own (M : Nat → Prop) (w0 : Bs) (w : World) (I : List It) : Prop where
  frm : Frm w0.F w0.toWorld w
  bd : ∀ k, M k → k < w0.heap.size
  ok : ∀ (i : Nat) it, I[i]? = some it → it.P (okM M I) w ∧ ∀ k, it.foot k → (w0.heap.size ≤ k ∨ w0.F k) ∧ k < w.heap.size
  dis : ∀ (i j : Nat) x y, i ≠ j → I[i]? = some x → I[j]? = some y → ∀ k, x.foot k → ¬ y.foot k
  apart : ∀ k, M k → ¬ w0.F k
theorem Own.start {M : Nat → Prop} {w : World} (h : ∀ k, M k → k < w.heap.size) : Own M ⟨w, fun _ => False⟩ w [] := ⟨New.refl w, h, fun i it h => by simp at h, fun i j x y _ h => by simp at h, fun _ _ h => h⟩
section
variable {M : Nat → Prop} {w0 : Bs} {w w' : World} {I I' : List It} {it it' : It} {j : Nat}
theorem Own.get (h : Own M w0 w I) (hj : I[j]? = some it) : it.P (okM M I) w := (h.ok j it hj).1
theorem Own.lt (h : Own M w0 w I) (hj : I[j]? = some it) {k : Nat} (hk : it.foot k) : (w0.heap.size ≤ k ∨ w0.F k) ∧ k < w.heap.size := (h.ok j it hj).2 k hk
theorem Own.bound (h : Own M w0 w I) : ∀ k, ¬ okM M I k → k < w.heap.size := by
  intro k hk
  by_cases hM : M k
  · exact Nat.lt_of_lt_of_le (h.bd k hM) h.frm.size
  · unfold okM at hk
    have : ∃ it, it ∈ I ∧ it.foot k := by
      false_or_by_contra
      rename_i hn
      exact hk ⟨hM, fun it hi hf => hn ⟨it, hi, hf⟩⟩
    obtain ⟨it, hi, hf⟩ := this
    obtain ⟨i, hi'⟩ := List.mem_iff_getElem?.1 hi
    exact (h.lt hi' hf).2
theorem Goes.new (h : New w w') (ok : Nat → Prop) : Goes ok ok w w' := fun b hb hlt => ⟨hb, h.block b hlt (fun h => h)⟩
theorem Own.fresh (h : Own M w0 w I) (hw : New w w') : Own M w0 w' I := by
  refine ⟨Frm.trans h.frm hw (fun _ h => h) (fun _ _ h => h.elim), h.bd, fun i x hi => ?_, h.dis, h.apart⟩
  obtain ⟨h1, h3⟩ := h.ok i x hi
  exact ⟨x.stable (Goes.new hw _) hw.size (fun k hk => (h3 k hk).2) (fun k hk => hw.block k (h3 k hk).2 (fun h => h)) h1, fun k hk => ⟨(h3 k hk).1, Nat.lt_of_lt_of_le (h3 k hk).2 hw.size⟩⟩
theorem mem_set {l : List It} {j : Nat} {x y : It} (h : y ∈ l.set j x) : y = x ∨ ∃ i, i ≠ j ∧ l[i]? = some y := by
  obtain ⟨i, hi⟩ := List.mem_iff_getElem?.1 h
  rw [List.getElem?_set] at hi
  by_cases hij : j = i
  · subst hij
    rw [if_pos rfl] at hi
    split at hi
    · injection hi with hi; exact .inl hi.symm
    · cases hi
  · rw [if_neg hij] at hi
    exact .inr ⟨i, fun e => hij e.symm, hi⟩
theorem Goes.upd (h : Own M w0 w I) (hj : I[j]? = some it) (hw : Frm it.foot w w') (hf : ∀ k, it'.foot k → (it.foot k ∨ w.heap.size ≤ k) ∧ k < w'.heap.size) : Goes (okM M I) (okM M (I.set j it')) w w' := by
  intro b hb hlt
  refine ⟨⟨hb.1, fun x hx hfx => ?_⟩, hw.block b hlt (hb.2 it (List.mem_of_getElem? hj))⟩
  rcases mem_set hx with rfl | ⟨i, _, hi⟩
  · rcases (hf b hfx).1 with h1 | h1
    · exact hb.2 it (List.mem_of_getElem? hj) h1
    · omega
  · exact hb.2 x (List.mem_of_getElem? hi) hfx
theorem Own.upd (h : Own M w0 w I) (hj : I[j]? = some it) (hw : Frm it.foot w w') (hP : it'.P (okM M (I.set j it')) w') (hf : ∀ k, it'.foot k → (it.foot k ∨ w.heap.size ≤ k) ∧ k < w'.heap.size) : Own M w0 w' (I.set j it') := by
  have hlt : j < I.length := (List.getElem?_eq_some_iff.1 hj).1
  have hgo := Goes.upd h hj hw hf
  refine ⟨Frm.trans h.frm hw (fun _ h => h) (fun k hk hm => (h.lt hj hm).1.resolve_left (by omega)), h.bd, ?_, ?_, h.apart⟩
  · intro i x hi
    rw [List.getElem?_set] at hi
    by_cases hij : j = i
    · subst hij
      rw [if_pos rfl, if_pos hlt] at hi
      injection hi with hi
      subst hi
      refine ⟨hP, fun k hk => ⟨?_, (hf k hk).2⟩⟩
      rcases (hf k hk).1 with h1 | h1
      · exact (h.lt hj h1).1
      · have := h.frm.size; left; omega
    · rw [if_neg hij] at hi
      obtain ⟨h1, h3⟩ := h.ok i x hi
      exact ⟨x.stable hgo hw.size (fun k hk => (h3 k hk).2) (fun k hk => hw.block k (h3 k hk).2 (h.dis i j x it (fun e => hij e.symm) hi hj k hk)) h1, fun k hk => ⟨(h3 k hk).1, Nat.lt_of_lt_of_le (h3 k hk).2 hw.size⟩⟩
  · intro p q x y hpq hp hq k hx hy
    rw [List.getElem?_set] at hp hq
    by_cases hjp : j = p
    · subst hjp
      rw [if_pos rfl, if_pos hlt] at hp
      injection hp with hp
      subst hp
      rw [if_neg hpq] at hq
      rcases (hf k hx).1 with h1 | h1
      · exact h.dis j q it y hpq hj hq k h1 hy
      · have := (h.lt hq hy).2; omega
    · rw [if_neg hjp] at hp
      by_cases hjq : j = q
      · subst hjq
        rw [if_pos rfl, if_pos hlt] at hq
        injection hq with hq
        subst hq
        rcases (hf k hy).1 with h1 | h1
        · exact h.dis p j x it hpq hp hj k hx h1
        · have := (h.lt hp hx).2; omega
      · rw [if_neg hjq] at hq
        exact h.dis p q x y hpq hp hq k hx hy
theorem Goes.push (hw : New w w') (hf : ∀ k, it'.foot k → w.heap.size ≤ k ∧ k < w'.heap.size) : Goes (okM M I) (okM M (it' :: I)) w w' := by
  intro b hb hlt
  refine ⟨⟨hb.1, fun x hx hfx => ?_⟩, hw.block b hlt (fun h => h)⟩
  rcases List.mem_cons.1 hx with rfl | hx
  · have := (hf b hfx).1; omega
  · exact hb.2 x hx hfx
theorem Own.push (h : Own M w0 w I) (hw : New w w') (hP : it'.P (okM M (it' :: I)) w') (hf : ∀ k, it'.foot k → w.heap.size ≤ k ∧ k < w'.heap.size) : Own M w0 w' (it' :: I) := by
  have hgo : Goes (okM M I) (okM M (it' :: I)) w w' := Goes.push hw hf
  refine ⟨Frm.trans h.frm hw (fun _ h => h) (fun _ _ h => h.elim), h.bd, ?_, ?_, h.apart⟩
  · intro i x hi
    cases i with
    | zero =>
      simp only [List.getElem?_cons_zero, Option.some.injEq] at hi
      subst hi
      exact ⟨hP, fun k hk => ⟨by have := (hf k hk).1; have := h.frm.size; left; omega, (hf k hk).2⟩⟩
    | succ i =>
      obtain ⟨h1, h3⟩ := h.ok i x (by simpa using hi)
      exact ⟨x.stable hgo hw.size (fun k hk => (h3 k hk).2) (fun k hk => hw.block k (h3 k hk).2 (fun h => h)) h1, fun k hk => ⟨(h3 k hk).1, Nat.lt_of_lt_of_le (h3 k hk).2 hw.size⟩⟩
  · intro p q x y hpq hp hq k hx hy
    cases p with
    | zero =>
      simp only [List.getElem?_cons_zero, Option.some.injEq] at hp
      subst hp
      cases q with
      | zero => exact hpq rfl
      | succ q =>
        have h1 := (h.lt (j := q) (by simpa using hq) hy).2
        have h2 := (hf k hx).1
        omega
    | succ p =>
      cases q with
      | zero =>
        simp only [List.getElem?_cons_zero, Option.some.injEq] at hq
        subst hq
        have h1 := (h.lt (j := p) (by simpa using hp) hx).2
        have h2 := (hf k hy).1
        omega
      | succ q => exact h.dis p q x y (by omega) (by simpa using hp) (by simpa using hq) k hx hy
theorem mem_eraseIdx {l : List It} {j : Nat} {y : It} (h : y ∈ l.eraseIdx j) : y ∈ l := List.mem_of_mem_eraseIdx h
theorem Goes.drop (w : World) (I : List It) (j : Nat) : Goes (okM M I) (okM M (I.eraseIdx j)) w w := fun b hb _ => ⟨⟨hb.1, fun x hx => hb.2 x (mem_eraseIdx hx)⟩, rfl⟩
theorem Own.drop (h : Own M w0 w I) (j : Nat) : Own M w0 w (I.eraseIdx j) := by
  refine ⟨h.frm, h.bd, fun i x hi => ?_, fun p q x y hpq hp hq => ?_, h.apart⟩
  · rw [List.getElem?_eraseIdx] at hi
    have key : ∀ i' : Nat, I[i']? = some x → x.P (okM M (I.eraseIdx j)) w ∧ ∀ k, x.foot k → (w0.heap.size ≤ k ∨ w0.F k) ∧ k < w.heap.size := by
      intro i' hi'
      obtain ⟨h1, h3⟩ := h.ok i' x hi'
      exact ⟨x.stable (Goes.drop w I j) (Nat.le_refl _) (fun k hk => (h3 k hk).2) (fun k hk => rfl) h1, h3⟩
    split at hi <;> exact key _ hi
  · rw [List.getElem?_eraseIdx] at hp hq
    split at hp <;> split at hq
    · exact h.dis p q x y hpq hp hq
    · exact h.dis p (q + 1) x y (by omega) hp hq
    · exact h.dis (p + 1) q x y (by omega) hp hq
    · exact h.dis (p + 1) (q + 1) x y (by omega) hp hq
theorem Own.conv (h : Own M w0 w I) (hj : I[j]? = some it) (hP : it.P (okM M I) w → it'.P (okM M (I.set j it')) w) (hf : ∀ k, it'.foot k → it.foot k) : Own M w0 w (I.set j it') :=
  h.upd hj (Frm.refl _ w) (hP (h.get hj)) fun k hk => ⟨.inl (hf k hk), (h.lt hj (hf k hk)).2⟩
end
structure S (M : Nat → Prop) (w0 : Bs) (a : Act) (w : World) (n : Nat) (I : List It) (σ : St) (Df : List Deferred := []) : Prop where
  own : Own M w0 w I
  kn : Knows (okM M I) a w n σ Df
section
variable {M : Nat → Prop} {w0 : Bs} {w w' : World} {a : Act} {n : Nat} {I : List It} {σ : St} {it it' : It} {j : Nat}
theorem S.fresh (h : S M w0 a w n I σ Df) (hw : New w w') : S M w0 a w' n I σ Df := ⟨h.own.fresh hw, h.kn.go (Goes.new hw _)⟩
theorem S.push (h : S M w0 a w n I σ Df) (hw : New w w') (hP : it'.P (okM M (it' :: I)) w') (hf : ∀ k, it'.foot k → w.heap.size ≤ k ∧ k < w'.heap.size) : S M w0 a w' n (it' :: I) σ Df :=
  ⟨h.own.push hw hP hf, h.kn.go (Goes.push hw hf)⟩
theorem S.upd (h : S M w0 a w n I σ Df) (hj : I[j]? = some it) (hw : Frm it.foot w w') (hP : it'.P (okM M (I.set j it')) w') (hf : ∀ k, it'.foot k → (it.foot k ∨ w.heap.size ≤ k) ∧ k < w'.heap.size) : S M w0 a w' n (I.set j it') σ Df :=
  ⟨h.own.upd hj hw hP hf, h.kn.go (Goes.upd h.own hj hw hf)⟩
theorem S.drop (h : S M w0 a w n I σ Df) (j : Nat) : S M w0 a w n (I.eraseIdx j) σ Df := ⟨h.own.drop j, h.kn.go (Goes.drop w I j)⟩
theorem S.sub (h : S M w0 a w n I σ Df) {σ' : St} (hs : Among σ σ') : S M w0 a w n I σ' Df := ⟨h.own, h.kn.sub hs⟩
theorem S.conv (h : S M w0 a w n I σ Df) (hj : I[j]? = some it) (hP : ∀ ok, Goes (okM M I) ok w w → it.P (okM M I) w → it'.P ok w) (hf : ∀ k, it'.foot k → it.foot k) : S M w0 a w n (I.set j it') σ Df :=
  have hg : Goes (okM M I) (okM M (I.set j it')) w w := Goes.upd h.own hj (Frm.refl _ w) fun k hk => ⟨.inl (hf k hk), (h.own.lt hj (hf k hk)).2⟩
  ⟨h.own.conv hj (hP _ hg) hf, h.kn.go hg⟩
theorem S.as (h : S M w0 a w n I σ Df) {i : Nat} {x y : AV} (hl : look σ i = some ([], x)) (hy : ∀ v, Rep (okM M I) w x v → Rep (okM M I) w y v) : S M w0 a w n I ((i, [], y) :: σ) Df := ⟨h.own, h.kn.as hl hy⟩
end
def Ret (M : Nat → Prop) (w : World) (y : AV) (e : Ending) (w' : World) : Prop := ∃ v, e = .returned v ∧ New w w' ∧ Rep (fun b => ¬ M b) w' y v
def RetB (M : Nat → Prop) (w0 : Bs) (y : AV) (e : Ending) (w' : World) : Prop := ∃ v, e = .returned v ∧ Frm w0.F w0.toWorld w' ∧ Rep (fun b => ¬ M b) w' y v
def Ok (P : Program) (f : FuncId) (xs : List AV) (y : AV) : Prop :=
  ∀ (M : Nat → Prop) (w : World) (vs : Array Value), (∀ b, M b → b < w.heap.size) → RepL (fun b => ¬ M b) w xs vs.toList → Calls P f vs w (Ret M w y)
def footL (I : List It) (k : Nat) : Prop := ∃ it ∈ I, it.foot k
def RetH (M : Nat → Prop) (w0 : Bs) (Q : AV → List It → Prop) (e : Ending) (w' : World) : Prop := ∃ v y I, e = .returned v ∧ Q y I ∧ Own M w0 w' I ∧ Rep (okM M I) w' y v
def OkH (P : Program) (f : FuncId) (xs : List AV) (I : List It) (Q : AV → List It → Prop) : Prop :=
  ∀ (M : Nat → Prop) (w : World) (vs : Array Value), Own M ⟨w, footL I⟩ w I → RepL (okM M I) w xs vs.toList → Calls P f vs w (RetH M ⟨w, footL I⟩ Q)
end Go.Proofs.YtfbkgaandmebaaaGreat.FW
namespace Go.Proofs.YtfbkgaandmebaaaGreat.FW
variable {Df : List Deferred}
set_option linter.unusedSimpArgs false
set_option linter.unusedVariables false
open Go.RowKit
abbrev B (l : List UInt8) : ByteArray := ⟨l.toArray⟩
theorem B_size (l : List UInt8) : (B l).size = l.length := rfl
def bt (l : List UInt8) (i : Int) : Int := ((l.getD i.toNat 0).toNat : Int)
def toB (l : List Int) : List UInt8 := l.map fun x => UInt8.ofNat x.toNat
def PureOp (P : Program) (a : Act) (o : Oper) (v : Value) : Prop := ∀ w, (execOp a.eval o).run P w = .ok (.value v) w
section
variable {P : Program} {ok : Nat → Prop} {a : Act} {wk : World} {n : Nat} {σ : St} {c : Ch} {dst : Option Tmp} {ty : TypeId} {pos : String} {aft : Array Edge} {g : Option (Nat × Bool)}
theorem p_pick_and {s : Nat} {x : Operand} {b y : Bool} (hk : Knows ok a wk n σ Df) (hc : holds a c) (hs : opvc σ c (.tmp s) = some (.lit (.bool b))) (hx : opvc σ ((s, true) :: c) x = some (.lit (.bool y))) :
    PureOp P a ⟨dst, .pick (.tmp s) x (.const (.bool false)), ty, pos, aft, g⟩ (.bool (b && y)) := by
  intro w
  have h1 := hk.val hc hs
  cases b with
  | false => simp [execOp, h1, asBool, show a.eval (.const (.bool false)) = .bool false from rfl]
  | true =>
    have hc' : holds a ((s, true) :: c) := by
      intro p hp
      rcases List.mem_cons.1 hp with rfl | hp
      · exact h1
      · exact hc p hp
    simp [execOp, h1, asBool, hk.val hc' hx]
theorem p_pick_or {s : Nat} {x : Operand} {b y : Bool} (hk : Knows ok a wk n σ Df) (hc : holds a c) (hs : opvc σ c (.tmp s) = some (.lit (.bool b))) (hx : opvc σ ((s, false) :: c) x = some (.lit (.bool y))) :
    PureOp P a ⟨dst, .pick (.tmp s) (.const (.bool true)) x, ty, pos, aft, g⟩ (.bool (b || y)) := by
  intro w
  have h1 := hk.val hc hs
  cases b with
  | true => simp [execOp, h1, asBool, show a.eval (.const (.bool true)) = .bool true from rfl]
  | false =>
    have hc' : holds a ((s, false) :: c) := by
      intro p hp
      rcases List.mem_cons.1 hp with rfl | hp
      · exact h1
      · exact hc p hp
    simp [execOp, h1, asBool, hk.val hc' hx]
theorem eqGuard_int (op : BinOp) (t : TypeId) (x y : Operand) (k k' : IntKind) (p q : Int) (w : World) : (eqGuard op t x y (.int k p) (.int k' q)).run P w = .ok () w := by
  unfold eqGuard; cases op <;> simp
theorem eqGuard_bool (op : BinOp) (t : TypeId) (x y : Operand) (p q : Bool) (w : World) : (eqGuard op t x y (.bool p) (.bool q)).run P w = .ok () w := by
  unfold eqGuard; cases op <;> simp
theorem eqGuard_str (op : BinOp) (t : TypeId) (x y : Operand) (p q : ByteArray) (w : World) : (eqGuard op t x y (.string p) (.string q)).run P w = .ok () w := by
  unfold eqGuard; cases op <;> simp
section ints
variable {t t' : TypeId} {x y : Operand} {k : IntKind} {p q : Int}
theorem p_add (hk : Knows ok a wk n σ Df) (hc : holds a c) (hx : opvc σ c x = some (.lit (.int k p))) (hy : opvc σ c y = some (.lit (.int k q))) :
    PureOp P a ⟨dst, .binOp .add t x y t', ty, pos, aft, g⟩ (.int k (k.wrap (p + q))) := by
  intro w; simp [execOp, hk.val hc hx, hk.val hc hy, eqGuard_int, binOp, Op.intArith]
theorem p_sub (hk : Knows ok a wk n σ Df) (hc : holds a c) (hx : opvc σ c x = some (.lit (.int k p))) (hy : opvc σ c y = some (.lit (.int k q))) :
    PureOp P a ⟨dst, .binOp .sub t x y t', ty, pos, aft, g⟩ (.int k (k.wrap (p - q))) := by
  intro w; simp [execOp, hk.val hc hx, hk.val hc hy, eqGuard_int, binOp, Op.intArith]
theorem p_mul (hk : Knows ok a wk n σ Df) (hc : holds a c) (hx : opvc σ c x = some (.lit (.int k p))) (hy : opvc σ c y = some (.lit (.int k q))) :
    PureOp P a ⟨dst, .binOp .mul t x y t', ty, pos, aft, g⟩ (.int k (k.wrap (p * q))) := by
  intro w; simp [execOp, hk.val hc hx, hk.val hc hy, eqGuard_int, binOp, Op.intArith]
theorem p_lss (hk : Knows ok a wk n σ Df) (hc : holds a c) (hx : opvc σ c x = some (.lit (.int k p))) (hy : opvc σ c y = some (.lit (.int k q))) :
    PureOp P a ⟨dst, .binOp .lss t x y t', ty, pos, aft, g⟩ (.bool (decide (p < q))) := by
  intro w; simp [execOp, hk.val hc hx, hk.val hc hy, eqGuard_int, binOp, Op.intCmp]
theorem p_gtr (hk : Knows ok a wk n σ Df) (hc : holds a c) (hx : opvc σ c x = some (.lit (.int k p))) (hy : opvc σ c y = some (.lit (.int k q))) :
    PureOp P a ⟨dst, .binOp .gtr t x y t', ty, pos, aft, g⟩ (.bool (decide (q < p))) := by
  intro w; simp [execOp, hk.val hc hx, hk.val hc hy, eqGuard_int, binOp, Op.intCmp]
theorem p_geq (hk : Knows ok a wk n σ Df) (hc : holds a c) (hx : opvc σ c x = some (.lit (.int k p))) (hy : opvc σ c y = some (.lit (.int k q))) :
    PureOp P a ⟨dst, .binOp .geq t x y t', ty, pos, aft, g⟩ (.bool (decide (q ≤ p))) := by
  intro w; simp [execOp, hk.val hc hx, hk.val hc hy, eqGuard_int, binOp, Op.intCmp]
theorem p_eql (hk : Knows ok a wk n σ Df) (hc : holds a c) (hx : opvc σ c x = some (.lit (.int k p))) (hy : opvc σ c y = some (.lit (.int k q))) :
    PureOp P a ⟨dst, .binOp .eql t x y t', ty, pos, aft, g⟩ (.bool (decide (p = q))) := by
  intro w; simp [execOp, hk.val hc hx, hk.val hc hy, eqGuard_int, binOp, Op.intCmp]; rfl
theorem p_neq (hk : Knows ok a wk n σ Df) (hc : holds a c) (hx : opvc σ c x = some (.lit (.int k p))) (hy : opvc σ c y = some (.lit (.int k q))) :
    PureOp P a ⟨dst, .binOp .neq t x y t', ty, pos, aft, g⟩ (.bool (!decide (p = q))) := by
  intro w; simp [execOp, hk.val hc hx, hk.val hc hy, eqGuard_int, binOp, Op.intCmp]; rfl
theorem p_quo (hk : Knows ok a wk n σ Df) (hc : holds a c) (hx : opvc σ c x = some (.lit (.int k p))) (hy : opvc σ c y = some (.lit (.int k q))) (h : asmP σ c (¬ q = 0)) :
    PureOp P a ⟨dst, .binOp .quo t x y t', ty, pos, aft, g⟩ (.int k (k.wrap (p.tdiv q))) := by
  intro w; simp [execOp, hk.val hc hx, hk.val hc hy, eqGuard_int, binOp, Op.intDiv, asm_out hk hc h]
def shlI (k : IntKind) (p q : Int) : Int := k.wrap (p * 2 ^ (min q.toNat k.bits))
def shrI (k : IntKind) (p q : Int) : Int := p.fdiv (2 ^ (min q.toNat k.bits))
theorem p_shl {k' : IntKind} (hk : Knows ok a wk n σ Df) (hc : holds a c) (hx : opvc σ c x = some (.lit (.int k p))) (hy : opvc σ c y = some (.lit (.int k' q))) (h : asmP σ c (0 ≤ q)) :
    PureOp P a ⟨dst, .binOp .shl t x y t', ty, pos, aft, g⟩ (.int k (shlI k p q)) := by
  intro w
  have h0 := asm_out hk hc h
  simp [execOp, hk.val hc hx, hk.val hc hy, eqGuard_int, binOp, Op.shift, shlI, shrI, show ¬ q < 0 from by omega]
theorem p_shr {k' : IntKind} (hk : Knows ok a wk n σ Df) (hc : holds a c) (hx : opvc σ c x = some (.lit (.int k p))) (hy : opvc σ c y = some (.lit (.int k' q))) (h : asmP σ c (0 ≤ q)) :
    PureOp P a ⟨dst, .binOp .shr t x y t', ty, pos, aft, g⟩ (.int k (shrI k p q)) := by
  intro w
  have h0 := asm_out hk hc h
  simp [execOp, hk.val hc hx, hk.val hc hy, eqGuard_int, binOp, Op.shift, shlI, shrI, show ¬ q < 0 from by omega]
def orI (k : IntKind) (p q : Int) : Int := k.wrap ((BitVec.ofInt k.bits p ||| BitVec.ofInt k.bits q).toNat)
def andI (k : IntKind) (p q : Int) : Int := k.wrap ((BitVec.ofInt k.bits p &&& BitVec.ofInt k.bits q).toNat)
theorem p_or (hk : Knows ok a wk n σ Df) (hc : holds a c) (hx : opvc σ c x = some (.lit (.int k p))) (hy : opvc σ c y = some (.lit (.int k q))) :
    PureOp P a ⟨dst, .binOp .or t x y t', ty, pos, aft, g⟩ (.int k (orI k p q)) := by
  intro w; simp [execOp, hk.val hc hx, hk.val hc hy, eqGuard_int, binOp, Op.intBits, orI]
theorem p_and (hk : Knows ok a wk n σ Df) (hc : holds a c) (hx : opvc σ c x = some (.lit (.int k p))) (hy : opvc σ c y = some (.lit (.int k q))) :
    PureOp P a ⟨dst, .binOp .and t x y t', ty, pos, aft, g⟩ (.int k (andI k p q)) := by
  intro w; simp [execOp, hk.val hc hx, hk.val hc hy, eqGuard_int, binOp, Op.intBits, andI]
theorem p_conv {s d : TypeId} {k' : IntKind} {D : TypeDesc} (hs : P.underlying s = some D) (hd : P.underlying d = some (.int k')) (hk : Knows ok a wk n σ Df) (hc : holds a c) (hx : opvc σ c x = some (.lit (.int k p))) :
    PureOp P a ⟨dst, .convert s d x, ty, pos, aft, g⟩ (.int k' (k'.wrap p)) := by
  intro w; simp [execOp, hk.val hc hx, convert, run_underlying hs, run_underlying hd, Conv.intToInt]
end ints
section bools
variable {t t' : TypeId} {x y : Operand} {p q : Bool}
theorem p_not (hk : Knows ok a wk n σ Df) (hc : holds a c) (hx : opvc σ c x = some (.lit (.bool p))) :
    PureOp P a ⟨dst, .unOp .not t x, ty, pos, aft, g⟩ (.bool (!p)) := by
  intro w; simp [execOp, hk.val hc hx, Op.unary]
theorem p_beql (hu : P.underlying t = some .bool) (hk : Knows ok a wk n σ Df) (hc : holds a c) (hx : opvc σ c x = some (.lit (.bool p))) (hy : opvc σ c y = some (.lit (.bool q))) :
    PureOp P a ⟨dst, .binOp .eql t x y t', ty, pos, aft, g⟩ (.bool (p == q)) := by
  intro w; simp [execOp, hk.val hc hx, hk.val hc hy, eqGuard_bool, run_eql_bool w t p q hu]
end bools
section strs
variable {t t' : TypeId} {x y : Operand} {l m : List UInt8}
theorem beq_dec (l m : List UInt8) : (l == m) = decide (l = m) := by rw [Bool.eq_iff_iff]; simp
theorem p_seql (hk : Knows ok a wk n σ Df) (hc : holds a c) (hx : opvc σ c x = some (.lit (.string (B l)))) (hy : opvc σ c y = some (.lit (.string (B m)))) :
    PureOp P a ⟨dst, .binOp .eql t x y t', ty, pos, aft, g⟩ (.bool (decide (l = m))) := by
  intro w; simp [execOp, hk.val hc hx, hk.val hc hy, eqGuard_str, binOp, Op.stringOp, Lib.toList_data, B, beq_dec]
theorem p_sneq (hk : Knows ok a wk n σ Df) (hc : holds a c) (hx : opvc σ c x = some (.lit (.string (B l)))) (hy : opvc σ c y = some (.lit (.string (B m)))) :
    PureOp P a ⟨dst, .binOp .neq t x y t', ty, pos, aft, g⟩ (.bool (!decide (l = m))) := by
  intro w; simp [execOp, hk.val hc hx, hk.val hc hy, eqGuard_str, binOp, Op.stringOp, Lib.toList_data, B, beq_dec]
theorem p_sadd (hk : Knows ok a wk n σ Df) (hc : holds a c) (hx : opvc σ c x = some (.lit (.string (B l)))) (hy : opvc σ c y = some (.lit (.string (B m)))) (h : asmP σ c ((l.length : Int) + m.length ≤ 9223372036854775807)) :
    PureOp P a ⟨dst, .binOp .add t x y t', ty, pos, aft, g⟩ (.string (B (l ++ m))) := by
  intro w
  have h0 := asm_out hk hc h
  have e : (B l ++ B m : ByteArray) = B (l ++ m) := by
    apply ByteArray.ext
    simp [B]
  have hle : ¬ (((B l).size + (B m).size : Nat) : Int) > IntKind.i64.max := by
    have : IntKind.i64.max = 9223372036854775807 := by decide
    rw [this]
    rw [B_size, B_size]
    omega
  simp only [execOp, hk.val hc hx, hk.val hc hy, binOp, Op.stringOp]
  simp only [Sem.run_bind, eqGuard_str, Result.andThen_ok]
  rw [if_neg hle, e]
  simp
theorem p_slen {ts : TypeId} (hu : P.underlying ts = some .string) (hk : Knows ok a wk n σ Df) (hc : holds a c) (hx : opvc σ c x = some (.lit (.string (B l)))) :
    PureOp P a ⟨dst, .call { callee := .builtin .len, args := #[x], argTypes := #[ts] }, ty, pos, aft, g⟩ (.int .i64 (l.length : Int)) := by
  intro w; simp [execOp, resolve, invoke, builtin, hk.val hc hx, Builtin.len_, run_underlying hu, goInt, B_size]
theorem p_index {ts : TypeId} {k : IntKind} {i : Int} (hu : P.underlying ts = some .string) (hk : Knows ok a wk n σ Df) (hc : holds a c) (hx : opvc σ c x = some (.lit (.string (B l)))) (hy : opvc σ c y = some (.lit (.int k i))) (h : asmP σ c (0 ≤ i ∧ i < l.length)) :
    PureOp P a ⟨dst, .index ts x y, ty, pos, aft, g⟩ (.int .u8 (bt l i)) := by
  intro w
  obtain ⟨h0, h1⟩ := asm_out hk hc h
  have hlt : i.toNat < l.length := by omega
  have hs : (B l)[i.toNat]? = some (l[i.toNat]) := by
    simp only [B, getElem?_def]
    rw [dif_pos (by show i.toNat < l.length; exact hlt)]
    rfl
  have hb : bt l i = (l[i.toNat].toNat : Int) := by
    unfold bt
    rw [List.getD_eq_getElem?_getD, List.getElem?_eq_getElem hlt]; rfl
  rw [hb]
  simp [execOp, hk.val hc hx, hk.val hc hy, Instr.index, asIntOf, run_underlying hu, h0, hs]
theorem ext_B (l : List UInt8) (i j : Nat) : (B l).extract i j = B ((l.drop i).take (j - i)) := by
  apply ByteArray.ext
  simp [B, ByteArray.data_extract, List.extract_eq_take_drop]
theorem p_slice {ts : TypeId} {lo hi : Option Operand} {p q : Int} {k k' : IntKind} (hu : P.underlying ts = some .string) (hk : Knows ok a wk n σ Df) (hc : holds a c) (hx : opvc σ c x = some (.lit (.string (B l))))
    (hp : lo.map (opvc σ c) = some (some (.lit (.int k p)))) (hq : hi.map (opvc σ c) = some (some (.lit (.int k' q)))) (h : asmP σ c (0 ≤ p ∧ p ≤ q ∧ q ≤ l.length)) :
    PureOp P a ⟨dst, .slice ts x lo hi none, ty, pos, aft, g⟩ (.string (B ((l.drop p.toNat).take (q.toNat - p.toNat)))) := by
  intro w
  obtain ⟨h0, h1, h2⟩ := asm_out hk hc h
  obtain ⟨lo', rfl, hlo⟩ := Option.map_eq_some_iff.1 hp
  obtain ⟨hi', rfl, hhi⟩ := Option.map_eq_some_iff.1 hq
  have hsz : (B l).size = l.length := B_size l
  rw [← ext_B]
  simp only [execOp, Option.map_some, Option.map_none, hk.val hc hx, hk.val hc hlo, hk.val hc hhi]
  simp only [Instr.sliceAt, Instr.slice]
  simp [run_underlying hu, Instr.sliceBounds, Instr.sliceBound, asIntOf, hsz, show 0 ≤ q from by omega, h0, h2]
  intro hh; omega
theorem p_slice_lo {ts : TypeId} {lo : Option Operand} {p : Int} {k : IntKind} (hu : P.underlying ts = some .string) (hk : Knows ok a wk n σ Df) (hc : holds a c) (hx : opvc σ c x = some (.lit (.string (B l))))
    (hp : lo.map (opvc σ c) = some (some (.lit (.int k p)))) (h : asmP σ c (0 ≤ p ∧ p ≤ l.length)) :
    PureOp P a ⟨dst, .slice ts x lo none none, ty, pos, aft, g⟩ (.string (B (l.drop p.toNat))) := by
  intro w
  obtain ⟨h0, h1⟩ := asm_out hk hc h
  obtain ⟨lo', rfl, hlo⟩ := Option.map_eq_some_iff.1 hp
  have hsz : (B l).size = l.length := B_size l
  have e : (B l).extract p.toNat l.length = B (l.drop p.toNat) := by
    rw [ext_B]
    congr 1
    rw [List.take_of_length_le (by simp)]
  rw [← e]
  simp only [execOp, Option.map_some, Option.map_none, hk.val hc hx, hk.val hc hlo]
  simp only [Instr.sliceAt, Instr.slice]
  simp [run_underlying hu, Instr.sliceBounds, Instr.sliceBound, asIntOf, hsz, h0, h1]
theorem p_slice_hi {ts : TypeId} {hi : Option Operand} {q : Int} {k : IntKind} (hu : P.underlying ts = some .string) (hk : Knows ok a wk n σ Df) (hc : holds a c) (hx : opvc σ c x = some (.lit (.string (B l))))
    (hq : hi.map (opvc σ c) = some (some (.lit (.int k q)))) (h : asmP σ c (0 ≤ q ∧ q ≤ l.length)) :
    PureOp P a ⟨dst, .slice ts x none hi none, ty, pos, aft, g⟩ (.string (B (l.take q.toNat))) := by
  intro w
  obtain ⟨h0, h1⟩ := asm_out hk hc h
  obtain ⟨hi', rfl, hhi⟩ := Option.map_eq_some_iff.1 hq
  have hsz : (B l).size = l.length := B_size l
  have e : (B l).extract 0 q.toNat = B (l.take q.toNat) := by
    rw [ext_B]; simp
  rw [← e]
  simp only [execOp, Option.map_some, Option.map_none, hk.val hc hx, hk.val hc hhi]
  simp only [Instr.sliceAt, Instr.slice]
  simp [run_underlying hu, Instr.sliceBounds, Instr.sliceBound, asIntOf, hsz, h0, h1]
end strs
section others
variable {t t' : TypeId} {x y : Operand}
theorem p_len {A : Option Addr} {m cp : Nat} {ts e : TypeId} (hu : P.underlying ts = some (.slice e)) (hk : Knows ok a wk n σ Df) (hc : holds a c) (hx : opvc σ c x = some (.lit (.slice A m cp))) :
    PureOp P a ⟨dst, .call { callee := .builtin .len, args := #[x], argTypes := #[ts] }, ty, pos, aft, g⟩ (.int .i64 (m : Int)) := by
  intro w; simp [execOp, resolve, invoke, builtin, hk.val hc hx, Builtin.len_, run_underlying hu, goInt]
theorem p_nilCheck {A : Addr} (hk : Knows ok a wk n σ Df) (hc : holds a c) (hx : opvc σ c x = some (.lit (.pointer (some A)))) :
    PureOp P a ⟨dst, .nilCheck x, ty, pos, aft, g⟩ (.pointer (some A)) := by
  intro w; simp [execOp, hk.val hc hx]
end others
end
end Go.Proofs.YtfbkgaandmebaaaGreat.FW
namespace Go.Proofs.YtfbkgaandmebaaaGreat.FW
variable {Df : List Deferred}
open Go.RowKit
set_option linter.unusedVariables false
def Fun (P : Program) (ok : Nat → Prop) (o : Oper) (a : Act) (w : World) (y : AV) : Prop :=
  (∃ v w', (execOp a.eval o).run P w = .ok (.value v) w' ∧ New w w' ∧ Rep ok w' y v) ∨
  (∃ f vs xs, (execOp a.eval o).run P w = .ok (.enter f vs) w ∧ RepL ok w xs vs.toList ∧ Ok P f xs y)
theorem Goes.nn (ok : Nat → Prop) (w : World) : Goes ok (fun b => ¬ ¬ ok b) w w := fun b h _ => ⟨fun hn => hn h, rfl⟩
theorem Goes.nn' (ok : Nat → Prop) (w : World) : Goes (fun b => ¬ ¬ ok b) ok w w := fun b h _ => ⟨Classical.byContradiction h, rfl⟩
section
variable {P : Program} {M : Nat → Prop} {w0 : Bs} {w : World} {a : Act} {n : Nat} {I : List It} {σ : St} {o : Oper} {ops : Array Oper} {Q : Exit → Act → World → Prop} {rest : List Oper} {d : Nat} {y : AV} {c : Ch}
theorem Fun.wp (hI : Own M w0 w I) (hF : Fun P (okM M I) o a w y) {K : Act → World → Prop} (h : ∀ v w', New w w' → Rep (okM M I) w' y v → K (a.put o.dst v) w') : o.wp P a w K Q := by
  unfold Oper.wp
  rcases hF with ⟨v, w', hr, hn, hv⟩ | ⟨f, vs, xs, hr, hx, hok⟩
  · rw [hr, Oper.upon_value]
    exact h v w' hn hv
  · rw [hr, Oper.upon_enter]
    refine (hok (fun b => ¬ okM M I b) w vs hI.bound (RepL.go (Goes.nn _ w) xs _ hx)).mono ?_
    rintro e w' ⟨v, rfl, hn, hv⟩
    exact h v w' hn (Rep.go (Goes.nn' _ w') y v hv)
theorem lfun (hk : S M w0 a w n I σ Df) (hg : o.guard = none) (hd : o.dst = some d) (hn : Nat.blt d n = true) (hf : chFree σ d = true) (hF : Fun P (okM M I) o a w y)
    (h : ∀ a' w', S M w0 a' w' n I ((d, [], y) :: σ) Df → wpList P ops Q rest a' w') : wpList P ops Q (o :: rest) a w := by
  unfold wpList
  rw [if_pos (by simp [Region.wanted, hg])]
  left
  refine hF.wp hk.own fun v w' hw hv => ?_
  rw [hd]
  have hk' := hk.fresh hw
  exact h _ _ ⟨hk'.own, hk'.kn.put hn hf rfl (fun _ => hv) (fun hh => absurd (holds_nil a) hh)⟩
theorem wanted_iff {ok : Nat → Prop} (hk : Knows ok a w n σ Df) {j g : Nat} {want b : Bool} {c0 : Ch} (hg : o.guard = some (j, want)) (hj : (ops[j]?).bind (·.dst) = some g) (hn : Nat.blt g n = true) (hl : look σ g = some (c0, .lit (.bool b))) :
    (Region.wanted o (yielded ops a.tmps) = true ↔ holds a ((g, want) :: c0)) ∧ (¬ holds a ((g, want) :: c0) → Region.wanted o (yielded ops a.tmps) = false) := by
  have hlt : g < a.tmps.size := by
    rw [hk.size]
    exact Nat.le_of_ble_eq_true hn
  have h0 := hk.ent _ _ _ hl
  have h01 : holds a c0 → a.tmps.getD g undef = .bool b := fun hh => by simpa [Rep] using h0.1 hh
  have hy : yielded ops a.tmps j = match a.tmps.getD g undef with | .bool b => some b | _ => none := by
    unfold yielded
    rw [hj]
    simp [Array.getD_eq_getD_getElem?, hlt]
    cases a.tmps[g] <;> rfl
  have key : Region.wanted o (yielded ops a.tmps) = true ↔ holds a ((g, want) :: c0) := by
    unfold Region.wanted
    rw [hg]
    simp only [hy]
    by_cases hh : holds a c0
    · rw [h01 hh]
      simp only [beq_iff_eq, Option.some.injEq]
      constructor
      · rintro rfl p hp
        rcases List.mem_cons.1 hp with rfl | hp
        · exact h01 hh
        · exact hh p hp
      · intro h
        have := h (g, want) List.mem_cons_self
        rw [h01 hh] at this
        injection this
    · rw [h0.2 hh]
      constructor
      · intro h; simp [undef] at h
      · intro h
        exact absurd (fun p hp => h p (List.mem_cons_of_mem _ hp)) hh
  refine ⟨key, fun h => ?_⟩
  cases hw : Region.wanted o (yielded ops a.tmps) with
  | false => rfl
  | true => exact absurd (key.1 hw) h
theorem lfunG (hk : S M w0 a w n I σ Df) {j g : Nat} {want b : Bool} {c0 : Ch} (hg : o.guard = some (j, want)) (hj : (ops[j]?).bind (·.dst) = some g) (hgn : Nat.blt g n = true) (hl : look σ g = some (c0, .lit (.bool b)))
    (hd : o.dst = some d) (hn : Nat.blt d n = true) (hf : chFree σ d = true) (hcf : cFree ((g, want) :: c0) d = true)
    (hF : holds a ((g, want) :: c0) → Fun P (okM M I) o a w y)
    (h : ∀ a' w', S M w0 a' w' n I ((d, (g, want) :: c0, y) :: σ) Df → wpList P ops Q rest a' w') : wpList P ops Q (o :: rest) a w := by
  obtain ⟨hw1, hw2⟩ := wanted_iff hk.kn hg hj hgn hl
  unfold wpList
  by_cases hh : holds a ((g, want) :: c0)
  · rw [if_pos (hw1.2 hh)]
    left
    refine (hF hh).wp hk.own fun v w' hw hv => ?_
    rw [hd]
    have hk' := hk.fresh hw
    exact h _ _ ⟨hk'.own, hk'.kn.put hn hf hcf (fun _ => hv) (fun h' => absurd hh h')⟩
  · rw [if_neg (by rw [hw2 hh]; simp), hd]
    exact h _ _ ⟨hk.own, hk.kn.put hn hf hcf (fun h' => absurd h' hh) (fun _ => rfl)⟩
theorem leff {v : Value} {w' : World} {I' : List It} (hk : S M w0 a w n I σ Df) (hg : o.guard = none) (hd : o.dst = some d) (hn : Nat.blt d n = true) (hf : chFree σ d = true)
    (hr : (execOp a.eval o).run P w = .ok (.value v) w') (hk' : S M w0 a w' n I' σ Df) (hv : Rep (okM M I') w' y v) (h : ∀ a', S M w0 a' w' n I' ((d, [], y) :: σ) Df → wpList P ops Q rest a' w') : wpList P ops Q (o :: rest) a w := by
  unfold wpList
  rw [if_pos (by simp [Region.wanted, hg])]
  left
  unfold Oper.wp
  rw [hr, Oper.upon_value, hd]
  exact h _ ⟨hk'.own, hk'.kn.put hn hf rfl (fun _ => hv) (fun hh => absurd (holds_nil a) hh)⟩
theorem lskip {w' : World} {I' : List It} (hk : S M w0 a w n I σ Df) (hg : o.guard = none) (hd : o.dst = none)
    (hr : (execOp a.eval o).run P w = .ok .skip w') (hk' : S M w0 a w' n I' σ Df) (h : S M w0 a w' n I' σ Df → wpList P ops Q rest a w') : wpList P ops Q (o :: rest) a w := by
  unfold wpList
  rw [if_pos (by simp [Region.wanted, hg])]
  left
  unfold Oper.wp
  rw [hr, Oper.upon_skip, hd]
  exact h hk'
theorem leffcall {f : FuncId} {args : Array Value} {R : Value → World → Prop} (hk : S M w0 a w n I σ Df) (hg : o.guard = none) (hd : o.dst = some d) (hn : Nat.blt d n = true) (hf : chFree σ d = true)
    (hr : (execOp a.eval o).run P w = .ok (.enter f args) w) (hc : Calls P f args w fun e w' => ∃ v, e = .returned v ∧ R v w')
    (hR : ∀ v w', R v w' → ∃ I' y, S M w0 a w' n I' σ Df ∧ Rep (okM M I') w' y v ∧ ∀ a', S M w0 a' w' n I' ((d, [], y) :: σ) Df → wpList P ops Q rest a' w') : wpList P ops Q (o :: rest) a w := by
  unfold wpList
  rw [if_pos (by simp [Region.wanted, hg])]
  left
  unfold Oper.wp
  rw [hr, Oper.upon_enter, hd]
  refine hc.mono ?_
  rintro e w' ⟨v, rfl, h⟩
  obtain ⟨I', y, hk', hv, h'⟩ := hR v w' h
  exact h' _ ⟨hk'.own, hk'.kn.put hn hf rfl (fun _ => hv) (fun hh => absurd (holds_nil a) hh)⟩
end
theorem repL_nil {ok : Nat → Prop} {w : World} : RepL ok w [] [] := by simp [RepL]
theorem repL_cons {ok : Nat → Prop} {w : World} {c : AV} {cs : List AV} {v : Value} {vs : List Value} (h : Rep ok w c v) (h' : RepL ok w cs vs) : RepL ok w (c :: cs) (v :: vs) := by
  simp only [RepL]; exact ⟨v, vs, rfl, h, h'⟩
theorem RepL.length {ok : Nat → Prop} {w : World} : ∀ {cs : List AV} {vs : List Value}, RepL ok w cs vs → vs.length = cs.length
  | [], vs, h => by simp only [RepL] at h; subst h; rfl
  | c :: cs, vs, h => by
    simp only [RepL] at h
    obtain ⟨v, r, rfl, _, h2⟩ := h
    simp [RepL.length h2]
theorem RepL.get {ok : Nat → Prop} {w : World} : ∀ {cs : List AV} {vs : List Value}, RepL ok w cs vs → ∀ {i : Nat} {y : AV}, cs[i]? = some y → ∃ v, vs[i]? = some v ∧ Rep ok w y v
  | [], vs, h, i, y, hi => by simp at hi
  | c :: cs, vs, h, i, y, hi => by
    simp only [RepL] at h
    obtain ⟨v, r, rfl, h1, h2⟩ := h
    cases i with
    | zero => simp only [List.getElem?_cons_zero, Option.some.injEq] at hi; subst hi; exact ⟨v, rfl, h1⟩
    | succ i =>
      obtain ⟨u, hu, hr⟩ := RepL.get h2 (i := i) (by simpa using hi)
      exact ⟨u, by simpa using hu, hr⟩
theorem RepL.append {ok : Nat → Prop} {w : World} : ∀ {cs ds : List AV} {vs us : List Value}, RepL ok w cs vs → RepL ok w ds us → RepL ok w (cs ++ ds) (vs ++ us)
  | [], ds, vs, us, h, h' => by simp only [RepL] at h; subst h; exact h'
  | c :: cs, ds, vs, us, h, h' => by
    simp only [RepL] at h
    obtain ⟨v, r, rfl, h1, h2⟩ := h
    exact repL_cons h1 (RepL.append h2 h')
theorem RepL.take {ok : Nat → Prop} {w : World} : ∀ {cs : List AV} {vs : List Value} (k : Nat), RepL ok w cs vs → RepL ok w (cs.take k) (vs.take k)
  | cs, vs, 0, h => by simpa using repL_nil
  | [], vs, k + 1, h => by simp only [RepL] at h; subst h; simpa using repL_nil
  | c :: cs, vs, k + 1, h => by
    simp only [RepL] at h
    obtain ⟨v, r, rfl, h1, h2⟩ := h
    exact repL_cons h1 (RepL.take k h2)
theorem RepL.drop {ok : Nat → Prop} {w : World} : ∀ {cs : List AV} {vs : List Value} (k : Nat), RepL ok w cs vs → RepL ok w (cs.drop k) (vs.drop k)
  | cs, vs, 0, h => by simpa using h
  | [], vs, k + 1, h => by simp only [RepL] at h; subst h; simpa using repL_nil
  | c :: cs, vs, k + 1, h => by
    simp only [RepL] at h
    obtain ⟨v, r, rfl, h1, h2⟩ := h
    simpa using RepL.drop k h2
theorem RepP.get {ok : Nat → Prop} {w : World} : ∀ {cs : List AV} {vs : List Value}, RepP ok w cs vs → ∀ {i : Nat} {y : AV}, cs[i]? = some y → ∃ v, vs[i]? = some v ∧ Rep ok w y v
  | [], vs, h, i, y, hi => by simp at hi
  | c :: cs, vs, h, i, y, hi => by
    simp only [RepP] at h
    obtain ⟨v, r, rfl, h1, h2⟩ := h
    cases i with
    | zero => simp only [List.getElem?_cons_zero, Option.some.injEq] at hi; subst hi; exact ⟨v, rfl, h1⟩
    | succ i =>
      obtain ⟨u, hu, hr⟩ := RepP.get h2 (i := i) (by simpa using hi)
      exact ⟨u, by simpa using hu, hr⟩
theorem RepP.drop {ok : Nat → Prop} {w : World} : ∀ {cs : List AV} {vs : List Value} (k : Nat), RepP ok w cs vs → RepP ok w (cs.drop k) (vs.drop k)
  | cs, vs, 0, h => by simpa using h
  | [], vs, k + 1, h => by simp [RepP]
  | c :: cs, vs, k + 1, h => by
    simp only [RepP] at h
    obtain ⟨v, r, rfl, h1, h2⟩ := h
    simpa using RepP.drop k h2
theorem RepP.toL {ok : Nat → Prop} {w : World} : ∀ {cs : List AV} {vs : List Value}, RepP ok w cs vs → RepL ok w cs (vs.take cs.length) ∧ cs.length ≤ vs.length
  | [], vs, h => by simp [RepL]
  | c :: cs, vs, h => by
    simp only [RepP] at h
    obtain ⟨v, r, rfl, h1, h2⟩ := h
    obtain ⟨h3, h4⟩ := RepP.toL h2
    exact ⟨by simpa using repL_cons h1 h3, by simp; omega⟩
theorem RepL.toP {ok : Nat → Prop} {w : World} : ∀ {cs : List AV} {vs : List Value} (us : List Value), RepL ok w cs vs → RepP ok w cs (vs ++ us)
  | [], vs, us, h => by simp [RepP]
  | c :: cs, vs, us, h => by
    simp only [RepL] at h
    obtain ⟨v, r, rfl, h1, h2⟩ := h
    simp only [RepP]
    exact ⟨v, r ++ us, rfl, h1, RepL.toP us h2⟩
theorem RepR.at {ok : Nat → Prop} {w : World} {sz : Nat} : ∀ {xs : List (List AV)} {vs : List Value}, RepR ok w xs vs → (∀ x ∈ xs, x.length = sz) → ∀ {i : Nat} {x : List AV}, xs[i]? = some x → RepP ok w x (vs.drop (i * sz))
  | [], vs, h, hs, i, x, hi => by simp at hi
  | y :: xs, vs, h, hs, i, x, hi => by
    simp only [RepR] at h
    cases i with
    | zero => simp only [List.getElem?_cons_zero, Option.some.injEq] at hi; subst hi; simpa using h.1
    | succ i =>
      have h1 := RepR.at h.2 (fun x hx => hs x (List.mem_cons_of_mem _ hx)) (i := i) (by simpa using hi)
      rw [List.drop_drop, hs y List.mem_cons_self] at h1
      rwa [Nat.succ_mul, Nat.add_comm]
theorem RepR.drop {ok : Nat → Prop} {w : World} {sz : Nat} : ∀ {xs : List (List AV)} {vs : List Value}, RepR ok w xs vs → (∀ x ∈ xs, x.length = sz) → ∀ (i : Nat), RepR ok w (xs.drop i) (vs.drop (i * sz))
  | [], vs, h, hs, i => by simp [RepR]
  | y :: xs, vs, h, hs, 0 => by simpa using h
  | y :: xs, vs, h, hs, i + 1 => by
    simp only [RepR] at h
    have h1 := RepR.drop h.2 (fun x hx => hs x (List.mem_cons_of_mem _ hx)) i
    rw [List.drop_drop, hs y List.mem_cons_self] at h1
    rw [Nat.succ_mul, Nat.add_comm (i * sz)]
    simpa using h1
theorem RepR.take {ok : Nat → Prop} {w : World} : ∀ {xs : List (List AV)} {vs : List Value} (i : Nat), RepR ok w xs vs → RepR ok w (xs.take i) vs
  | xs, vs, 0, h => by simp [RepR]
  | [], vs, i + 1, h => by simp [RepR]
  | y :: xs, vs, i + 1, h => by
    simp only [RepR] at h
    simp only [List.take_succ_cons, RepR]
    exact ⟨h.1, RepR.take i h.2⟩
def isAggD (d : TypeDesc) : Bool := match d with | .struct _ | .array _ _ => true | _ => false
theorem loadCells_at {P : Program} (w : World) (b off : Nat) (arr : Array Value) (e : TypeId) (fr : Nat × Nat) (vs : List Value) (hh : w.heap[b]? = some (.cells arr e fr)) (hv : ∀ j v, vs[j]? = some v → arr[off + j]? = some v) :
    (loadCells ⟨b, off, none⟩ vs.length).run P w = .ok vs.toArray w := by
  refine run_loadCells_list (P := P) w ⟨b, off, none⟩ vs fun j v hj => ?_
  have hadd : (⟨b, off, none⟩ : Addr).add j = ⟨b, off + j, none⟩ := by unfold Addr.add; split <;> simp_all
  rw [hadd, cell_of_row w b (off + j) arr e fr hh]
  exact hv j v hj
section
variable {P : Program} {M : Nat → Prop} {w0 : Bs} {w : World} {a : Act} {n : Nat} {I : List It} {σ : St} {c : Ch} {dst : Option Tmp} {ty : TypeId} {pos : String} {aft : Array Edge} {g : Option (Nat × Bool)} {x y : Operand} {u : AV}
theorem f_pure {o : Oper} {v : Value} (h : PureOp P a o v) : Fun P (okM M I) o a w (.lit v) := .inl ⟨v, w, h w, New.refl w, rep_lit rfl⟩
theorem f_move (hk : S M w0 a w n I σ Df) (hc : holds a c) (hx : opvc σ c x = some u) : Fun P (okM M I) ⟨dst, .move x, ty, pos, aft, g⟩ a w u :=
  .inl ⟨a.eval x, w, by simp [execOp], New.refl w, hk.kn.rep hc hx⟩
theorem f_assign (hk : S M w0 a w n I σ Df) (hc : holds a c) (hx : opvc σ c x = some u) : Fun P (okM M I) ⟨dst, .assign x, ty, pos, aft, g⟩ a w u :=
  .inl ⟨a.eval x, w, by simp [execOp], New.refl w, hk.kn.rep hc hx⟩
theorem f_extract {cs : List AV} {i : Nat} (hk : S M w0 a w n I σ Df) (hc : holds a c) (hx : opvc σ c x = some (.tup cs)) (hi : cs[i]? = some u) : Fun P (okM M I) ⟨dst, .extract x i, ty, pos, aft, g⟩ a w u := by
  have h := hk.kn.rep hc hx
  simp only [Rep] at h
  obtain ⟨vs, hv, hL⟩ := h
  obtain ⟨v, hv', hr⟩ := hL.get hi
  have hv'' : vs[i]? = some v := by simpa using hv'
  exact .inl ⟨v, w, by simp [execOp, hv, Instr.extract, hv''], New.refl w, hr⟩
def cellsA : AV → List AV
  | .agg cs => cs
  | x => [x]
def oneA : AV → Bool
  | .lit v => v.oneCell'
  | .row _ | .ref _ | .clo _ _ => true
  | _ => false
def wholeA : AV → Bool
  | .agg cs => cs.all oneA
  | x => oneA x
theorem rep_one {ok : Nat → Prop} {x : AV} {v : Value} (h : Rep ok w x v) (h1 : oneA x = true) : v.oneCell' = true ∧ v.cells = #[v] := by
  cases x with
  | lit u =>
    simp only [Rep] at h
    subst h
    simp only [oneA] at h1
    exact ⟨h1, by cases v <;> first | rfl | (simp [Value.oneCell'] at h1)⟩
  | row xs => simp only [Rep] at h; obtain ⟨a, cap, rfl, _⟩ := h; exact ⟨rfl, rfl⟩
  | ref cs => simp only [Rep] at h; obtain ⟨b, off, arr, e, fr, rfl, _⟩ := h; exact ⟨rfl, rfl⟩
  | clo f cs => simp only [Rep] at h; obtain ⟨vs, rfl, _⟩ := h; exact ⟨rfl, rfl⟩
  | agg cs => simp [oneA] at h1
  | tup cs => simp [oneA] at h1
theorem repL_one {ok : Nat → Prop} : ∀ {cs : List AV} {vs : List Value}, RepL ok w cs vs → cs.all oneA = true → ∀ v ∈ vs, v.oneCell' = true
  | [], vs, h, _ => by simp only [RepL] at h; subst h; simp
  | c :: cs, vs, h, ha => by
    simp only [RepL] at h
    obtain ⟨v, r, rfl, h1, h2⟩ := h
    simp only [List.all_cons, Bool.and_eq_true] at ha
    intro u hu
    rcases List.mem_cons.1 hu with rfl | hu
    · exact (rep_one h1 ha.1).1
    · exact repL_one h2 ha.2 u hu
theorem rep_cells {ok : Nat → Prop} {x : AV} {v : Value} (h : Rep ok w x v) (h1 : wholeA x = true) : RepL ok w (cellsA x) v.cells.toList ∧ ∀ u ∈ v.cells.toList, u.oneCell' = true := by
  cases x with
  | agg cs =>
    simp only [Rep] at h
    obtain ⟨vs, rfl, hL⟩ := h
    exact ⟨hL, repL_one hL h1⟩
  | lit u => obtain ⟨h2, h3⟩ := rep_one h h1; rw [h3]; exact ⟨repL_cons h repL_nil, by simpa using h2⟩
  | row xs => obtain ⟨h2, h3⟩ := rep_one h h1; rw [h3]; exact ⟨repL_cons h repL_nil, by simpa using h2⟩
  | ref cs => obtain ⟨h2, h3⟩ := rep_one h h1; rw [h3]; exact ⟨repL_cons h repL_nil, by simpa using h2⟩
  | clo f cs => obtain ⟨h2, h3⟩ := rep_one h h1; rw [h3]; exact ⟨repL_cons h repL_nil, by simpa using h2⟩
  | tup cs => simp [wholeA, oneA] at h1
def putA (off : Nat) (x cells : List AV) : List AV := cells.take off ++ x ++ cells.drop (off + x.length)
def fillA (place : Nat → Option (Nat × Nat)) (cells : List AV) : List (Nat × AV) → Option (List AV)
  | [] => some cells
  | (i, v) :: rest =>
    match place i with
    | none => none
    | some (off, size) =>
      bif Nat.beq (cellsA v).length size && Nat.ble (off + size) cells.length && wholeA v then fillA place (putA off (cellsA v) cells) rest else none
theorem foldl_put (vs : List Value) : ∀ (k off : Nat) (cells : Array Value), off + k + vs.length ≤ cells.size →
    ((vs.zipIdx k).foldl (fun cs (p : Value × Nat) => cs.setIfInBounds (off + p.2) p.1) cells).toList = cells.toList.take (off + k) ++ vs ++ cells.toList.drop (off + k + vs.length) := by
  induction vs with
  | nil => intro k off cells h; simp
  | cons v vs ih =>
    intro k off cells h
    simp only [List.length_cons] at h
    rw [List.zipIdx_cons, List.foldl_cons, ih (k + 1) off _ (by simp; omega)]
    simp only [Array.toList_setIfInBounds, List.length_cons]
    have hl : cells.toList.length = cells.size := Array.length_toList
    generalize cells.toList = l at hl
    have e1 : (l.set (off + k) v).take (off + (k + 1)) = l.take (off + k) ++ [v] := by
      rw [List.take_set, show off + (k + 1) = (off + k) + 1 from rfl, List.take_succ_eq_append_getElem (by omega)]
      rw [List.set_append_right _ _ (by simp; omega)]
      have : (List.take (off + k) l).length = off + k := by simp; omega
      simp [this]
    have e2 : (l.set (off + k) v).drop (off + (k + 1) + vs.length) = l.drop (off + k + (vs.length + 1)) := by
      rw [List.drop_set_of_lt (by omega)]
      congr 1; omega
    rw [e1, e2]
    simp
inductive RepParts (ok : Nat → Prop) (w : World) : List (Nat × AV) → List (Nat × Value) → Prop where
  | nil : RepParts ok w [] []
  | cons {i : Nat} {x : AV} {v : Value} {xs : List (Nat × AV)} {vs : List (Nat × Value)} (h : Rep ok w x v) (t : RepParts ok w xs vs) : RepParts ok w ((i, x) :: xs) ((i, v) :: vs)
theorem rep_fill {ok : Nat → Prop} {place : Nat → Option (Nat × Nat)} : ∀ {parts : List (Nat × AV)} {vals : List (Nat × Value)} {cs : List AV} {cells : Array Value} {out : List AV},
    RepParts ok w parts vals → RepL ok w cs cells.toList → fillA place cs parts = some out → ∃ arr, Instr.fill place cells vals = some arr ∧ RepL ok w out arr.toList
  | [], _, cs, cells, out, hp, hc, h => by
    cases hp
    simp only [fillA, Option.some.injEq] at h
    subst h
    exact ⟨cells, rfl, hc⟩
  | (i, x) :: parts, _, cs, cells, out, hp, hc, h => by
    cases hp with
    | cons hx ht =>
    rename_i v vs
    simp only [fillA] at h
    split at h
    · cases h
    · rename_i off size hpl
      cases hb : (Nat.beq (cellsA x).length size && Nat.ble (off + size) cs.length && wholeA x) with
      | false => simp [hb] at h
      | true =>
        simp only [hb, cond_true] at h
        simp only [Bool.and_eq_true] at hb
        obtain ⟨⟨hb1, hb2⟩, hb3⟩ := hb
        have hb1 : (cellsA x).length = size := Nat.eq_of_beq_eq_true hb1
        have hb2 : off + size ≤ cs.length := Nat.le_of_ble_eq_true hb2
        obtain ⟨hL, _⟩ := rep_cells hx hb3
        have hvl : v.cells.size = size := by rw [← hb1, ← hL.length]; simp
        have hcl : cells.size = cs.length := by rw [← hc.length]; simp
        have hput : ((v.cells.zipIdx.foldl (fun cs (p : Value × Nat) => cs.setIfInBounds (off + p.2) p.1) cells)).toList = cells.toList.take off ++ v.cells.toList ++ cells.toList.drop (off + v.cells.toList.length) := by
          have h0 := foldl_put v.cells.toList 0 off cells (by simp; omega)
          rw [← Array.foldl_toList, Array.toList_zipIdx]
          simpa using h0
        have hnew : RepL ok w (putA off (cellsA x) cs) ((v.cells.zipIdx.foldl (fun cs (p : Value × Nat) => cs.setIfInBounds (off + p.2) p.1) cells)).toList := by
          rw [hput]
          unfold putA
          rw [hL.length]
          exact ((hc.take off).append hL).append (hc.drop _)
        obtain ⟨arr, h1, h2⟩ := rep_fill ht hnew h
        refine ⟨arr, ?_, h2⟩
        rw [Instr.fill, hpl]
        simp only
        rw [if_neg]
        · exact h1
        · simp [hvl]; omega
def builtA (P : Program) (t : TypeId) (parts : List (Nat × AV)) : Option (List AV) :=
  match P.info? t, P.underlying t with
  | some it, some (.array _ e) =>
    match it.zero, P.info? e with
    | some z, some ie => fillA (fun i => some (i * ie.size, ie.size)) (z.cells.toList.map .lit) parts
    | _, _ => none
  | some it, some (.struct fields) =>
    match it.zero, fields.toList.mapM (fun f => (P.info? f.type).map fun i => (f.offset, i.size)) with
    | some z, some places => fillA (places.toArray[·]?) (z.cells.toList.map .lit) parts
    | _, _ => none
  | _, _ => none
theorem repL_lits {ok : Nat → Prop} : ∀ (vs : List Value), RepL ok w (vs.map .lit) vs
  | [] => by simp [RepL]
  | v :: vs => repL_cons (rep_lit rfl) (repL_lits vs)
theorem rep_built {ok : Nat → Prop} {t : TypeId} {parts : List (Nat × AV)} {vals : List (Nat × Value)} {out : List AV} (hp : RepParts ok w parts vals) (h : builtA P t parts = some out) : ∃ arr, P.built t vals = some arr ∧ RepL ok w out arr.toList := by
  unfold builtA at h
  unfold Program.built
  split at h
  · rename_i it n e h1 h2
    split at h
    · rename_i z ie h3 h4
      simp only [h1, h2, h3, h4]
      exact rep_fill hp (repL_lits _) h
    · cases h
  · rename_i it fields h1 h2
    split at h
    · rename_i z places h3 h4
      simp only [h1, h2, h3, h4]
      exact rep_fill hp (repL_lits _) h
    · cases h
  · cases h
def partsA (σ : St) (c : Ch) : List (Nat × Operand) → Option (List (Nat × AV))
  | [] => some []
  | (i, x) :: r => match opvc σ c x, partsA σ c r with
    | some y, some ys => some ((i, y) :: ys)
    | _, _ => none
theorem rep_parts {ok : Nat → Prop} (hk : Knows ok a w n σ Df) (hc : holds a c) : ∀ {ps : List (Nat × Operand)} {xs : List (Nat × AV)}, partsA σ c ps = some xs → RepParts ok w xs (ps.map fun (i, x) => (i, a.eval x))
  | [], xs, h => by simp only [partsA, Option.some.injEq] at h; subst h; exact .nil
  | (i, x) :: r, xs, h => by
    simp only [partsA] at h
    split at h
    · rename_i y ys h1 h2
      simp only [Option.some.injEq] at h
      subst h
      exact .cons (hk.rep hc h1) (rep_parts hk hc h2)
    · cases h
theorem f_build {t : TypeId} {ps : List (Nat × Operand)} {xs : List (Nat × AV)} {cs : List AV} (hk : S M w0 a w n I σ Df) (hc : holds a c) (hx : partsA σ c ps = some xs) (h : builtA P t xs = some cs) :
    Fun P (okM M I) ⟨dst, .build t ps.toArray, ty, pos, aft, g⟩ a w (.agg cs) := by
  obtain ⟨arr, h1, h2⟩ := rep_built (rep_parts hk.kn hc hx) h
  refine .inl ⟨.agg arr, w, ?_, New.refl w, by simp only [Rep]; exact ⟨arr, rfl, h2⟩⟩
  simp only [execOp, Sem.run_bind]
  rw [run_build w t _ arr (by simpa using h1)]
  simp
theorem rep_slice {ok : Nat → Prop} {xs : List (List AV)} {v : Value} (h : Rep ok w (.row xs) v) : ∃ a cap, v = .slice a xs.length cap ∧ xs.length ≤ cap := by
  simp only [Rep] at h; obtain ⟨a, cap, h, hc, _⟩ := h; exact ⟨a, cap, h, hc⟩
theorem f_len {α : Type} {f : α → List AV} {R : List α → List (List AV)} {l : List α} {ts e : TypeId} (hR : ∀ l, R l = l.map f) (hu : P.underlying ts = some (.slice e)) (hk : S M w0 a w n I σ Df) (hc : holds a c) (hx : opvc σ c x = some (.row (R l))) :
    Fun P (okM M I) ⟨dst, .call { callee := .builtin .len, args := #[x], argTypes := #[ts] }, ty, pos, aft, g⟩ a w (.lit (.int .i64 (l.length : Int))) := by
  rw [hR] at hx
  obtain ⟨ad, cap, hv, _⟩ := rep_slice (hk.kn.rep hc hx)
  refine .inl ⟨_, w, ?_, New.refl w, rep_lit rfl⟩
  simp [execOp, resolve, invoke, builtin, hv, Builtin.len_, run_underlying hu, goInt]
theorem add_addr (b off k : Nat) : ((⟨b, off, none⟩ : Addr).add k) = ⟨b, off + k, none⟩ := by unfold Addr.add; split <;> simp_all
theorem f_indexAddr {α : Type} [Inhabited α] {f : α → List AV} {R : List α → List (List AV)} {l : List α} {t e : TypeId} {sz : Nat} {k : IntKind} {i : Int} (hR : ∀ l, R l = l.map f) (hsz : ∀ x, (f x).length = sz) (hk : S M w0 a w n I σ Df) (hc : holds a c)
    (hx : opvc σ c x = some (.row (R l))) (hy : opvc σ c y = some (.lit (.int k i))) (hu : P.underlying t = some (.slice e)) (hs : (P.info? e).map (·.size) = some sz) (hi : asmP σ c (0 ≤ i ∧ i < l.length)) :
    Fun P (okM M I) ⟨dst, .indexAddr t x y, ty, pos, aft, g⟩ a w (.ref (f (l.getD i.toNat default))) := by
  rw [hR] at hx
  have h := hk.kn.rep hc hx
  have hi := asm_out hk.kn hc hi
  simp only [Rep, List.length_map] at h
  obtain ⟨ad, cap, hv, _, h⟩ := h
  have hlt : i.toNat < l.length := by omega
  have hne : ¬ l.map f = [] := by
    intro e0
    rw [List.map_eq_nil_iff] at e0
    subst e0
    simp at hlt
  obtain ⟨b, off, cs, el, fr, rfl, hb, hh, hR⟩ := h.resolve_left hne
  obtain ⟨inf, hinf, hs'⟩ := Option.map_eq_some_iff.1 hs
  refine .inl ⟨.pointer (some ⟨b, off + i.toNat * sz, none⟩), w, ?_, New.refl w, ?_⟩
  · simp [execOp, hv, hk.kn.val hc hy, Instr.indexAt, asIntOf, run_underlying hu, sizeOf, typeInfo, hinf, hs', hi.1, hi.2, add_addr]
  · simp only [Rep]
    refine ⟨b, off + i.toNat * sz, cs, el, fr, rfl, hb, hh, ?_⟩
    have hg : (l.map f)[i.toNat]? = some (f (l.getD i.toNat default)) := by
      simp [List.getD_eq_getElem?_getD, hlt]
    have := RepR.at hR (sz := sz) (by intro x hx'; obtain ⟨y, _, rfl⟩ := List.mem_map.1 hx'; exact hsz y) hg
    rwa [List.drop_drop] at this
theorem f_fieldAddr {t : TypeId} {fs : Array Field} {k : Nat} {f : Field} {cs cs' : List AV} (hk : S M w0 a w n I σ Df) (hc : holds a c) (hx : opvc σ c x = some (.ref cs)) (hu : P.underlying t = some (.struct fs)) (hf : fs[k]? = some f)
    (hs : ((P.info? f.type).map fun i => Nat.beq i.size 0) = some false) (hcs : cs.drop f.offset = cs') : Fun P (okM M I) ⟨dst, .fieldAddr t x k, ty, pos, aft, g⟩ a w (.ref cs') := by
  subst hcs
  have h := hk.kn.rep hc hx
  simp only [Rep] at h
  obtain ⟨b, off, arr, el, fr, hv, hb, hh, hP⟩ := h
  obtain ⟨inf, hinf, hs'⟩ := Option.map_eq_some_iff.1 hs
  have hs0 : ¬ inf.size = 0 := by intro e; rw [e] at hs'; simp at hs'
  refine .inl ⟨.pointer (some ⟨b, off + f.offset, none⟩), w, ?_, New.refl w, ?_⟩
  · simp [execOp, hv, Instr.fieldAt, run_underlying hu, hf, Instr.sureAddr, fieldPlace, sizeOf, typeInfo, hinf, hs0, add_addr]
  · simp only [Rep]
    refine ⟨b, off + f.offset, arr, el, fr, rfl, hb, hh, ?_⟩
    have := hP.drop f.offset
    rwa [List.drop_drop] at this
theorem f_load1 {t : TypeId} {cs r : List AV} {D : TypeDesc} (hk : S M w0 a w n I σ Df) (hc : holds a c) (hx : opvc σ c x = some (.ref cs)) (hcs : cs = u :: r) (hu : P.underlying t = some D) (hd : isAggD D = false) :
    Fun P (okM M I) ⟨dst, .load t x, ty, pos, aft, g⟩ a w u := by
  have h := hk.kn.rep hc hx
  subst hcs
  simp only [Rep, RepP] at h
  obtain ⟨b, off, arr, el, fr, hv, hb, hh, v, r', hvr, h1, _⟩ := h
  have hcell : w.cell? ⟨b, off, none⟩ = some v := by
    rw [cell_of_row w b off arr el fr hh]
    have : (arr.toList.drop off)[0]? = some v := by rw [hvr]; rfl
    simpa using this
  refine .inl ⟨v, w, ?_, New.refl w, h1⟩
  have : (isAgg t).run P w = .ok false w := by
    simp only [isAgg, Sem.run_bind, run_underlying hu, Result.andThen_ok]
    cases D <;> simp_all [isAggD]
  simp only [execOp, hv, Instr.loadAt, Instr.sureAddr, Sem.run_bind, Sem.run_pure, Result.andThen_ok, loadVar, this]
  simp [load, Sem.run, hcell]
theorem f_load {t : TypeId} {cs ys : List AV} {D : TypeDesc} {sz : Nat} (hk : S M w0 a w n I σ Df) (hc : holds a c) (hx : opvc σ c x = some (.ref cs)) (hu : P.underlying t = some D) (hd : isAggD D = true) (hs : (P.info? t).map (·.size) = some sz)
    (hy : cs.take sz = ys) (hl : Nat.ble sz cs.length = true) : Fun P (okM M I) ⟨dst, .load t x, ty, pos, aft, g⟩ a w (.agg ys) := by
  have h := hk.kn.rep hc hx
  simp only [Rep] at h
  obtain ⟨b, off, arr, el, fr, hv, hb, hh, hP⟩ := h
  obtain ⟨inf, hinf, hs'⟩ := Option.map_eq_some_iff.1 hs
  obtain ⟨hL, hlen⟩ := hP.toL
  have hle := Nat.le_of_ble_eq_true hl
  subst hy
  have hL' := hL.take sz
  rw [List.take_take, Nat.min_eq_left hle] at hL'
  have hlen' : ((arr.toList.drop off).take sz).length = sz := by
    rw [List.length_take]; omega
  refine .inl ⟨.agg ((arr.toList.drop off).take sz).toArray, w, ?_, New.refl w, by simp only [Rep]; exact ⟨_, rfl, by simpa using hL'⟩⟩
  have hagg : (isAgg t).run P w = .ok true w := by
    simp only [isAgg, Sem.run_bind, run_underlying hu, Result.andThen_ok]
    cases D <;> simp_all [isAggD]
  have hld := loadCells_at (P := P) w b off arr el fr ((arr.toList.drop off).take sz) hh (fun j v hj => by
    rw [List.getElem?_take] at hj
    split at hj
    · rw [List.getElem?_drop] at hj; simpa using hj
    · cases hj)
  rw [hlen'] at hld
  simp only [execOp, hv, Instr.loadAt, Instr.sureAddr, Sem.run_bind, Sem.run_pure, Result.andThen_ok, loadVar, hagg, if_true]
  simp [sizeOf, typeInfo, hinf, hs', hld]
theorem rep_part {ok : Nat → Prop} {α : Type} {f : α → List AV} {l : List α} {sz : Nat} (hsz : ∀ x, (f x).length = sz) {ad : Option Addr} {cap : Nat} {v : Value} (h : Rep ok w (.row (l.map f)) v) (hv : v = .slice ad l.length cap) (p q : Nat) (hpq : p ≤ q) (hq : q ≤ l.length) :
    Rep ok w (.row (((l.drop p).take (q - p)).map f)) (.slice (if cap = p then ad else ad.map (·.add (p * sz))) (q - p) (cap - p)) := by
  simp only [Rep] at h ⊢
  obtain ⟨a', cap', hv', hcp, hr⟩ := h
  rw [hv] at hv'
  injection hv' with e1 e2 e3
  subst e1; subst e3
  simp only [List.length_map] at hcp
  have hlen : (((l.drop p).take (q - p)).map f).length = q - p := by simp; omega
  refine ⟨_, _, by rw [hlen], by rw [hlen]; omega, ?_⟩
  by_cases hpq0 : p = q
  · left; subst hpq0; simp
  right
  have hlne : ¬ l.map f = [] := by
    intro e0
    rw [List.map_eq_nil_iff] at e0
    subst e0
    simp at hq; omega
  obtain ⟨b, off, cs, e, fr, rfl, hb, hh, hR⟩ := hr.resolve_left hlne
  refine ⟨b, off + p * sz, cs, e, fr, ?_, hb, hh, ?_⟩
  · rw [if_neg (by omega)]
    simp [add_addr]
  · have h1 := hR.drop (sz := sz) (by intro x hx'; obtain ⟨y, _, rfl⟩ := List.mem_map.1 hx'; exact hsz y) p
    rw [List.drop_drop] at h1
    have h2 := h1.take (q - p)
    rwa [← List.map_drop, ← List.map_take] at h2
theorem f_part {α : Type} {f : α → List AV} {R : List α → List (List AV)} {l : List α} {t e : TypeId} {sz : Nat} {lo hi : Option Operand} {p q : Int} (hR : ∀ l, R l = l.map f) (hsz : ∀ x, (f x).length = sz) (hk : S M w0 a w n I σ Df) (hc : holds a c)
    (hx : opvc σ c x = some (.row (R l))) (hu : P.underlying t = some (.slice e)) (hs : (P.info? e).map (·.size) = some sz)
    (hp : (match lo with | none => some (.lit (.int .i64 0)) | some o => opvc σ c o) = some (.lit (.int .i64 p))) (hq : (match hi with | none => some (.lit (.int .i64 (l.length : Int))) | some o => opvc σ c o) = some (.lit (.int .i64 q)))
    (h : asmP σ c (0 ≤ p ∧ p ≤ q ∧ q ≤ l.length)) :
    Fun P (okM M I) ⟨dst, .slice t x lo hi none, ty, pos, aft, g⟩ a w (.row (R ((l.drop p.toNat).take (q.toNat - p.toNat)))) := by
  rw [hR] at hx
  rw [hR ((l.drop p.toNat).take (q.toNat - p.toNat))]
  have hr := hk.kn.rep hc hx
  obtain ⟨h0, h1, h2⟩ := asm_out hk.kn hc h
  obtain ⟨ad, cap, hv, hcp⟩ := rep_slice hr
  simp only [List.length_map] at hv hcp
  obtain ⟨inf, hinf, hs'⟩ := Option.map_eq_some_iff.1 hs
  have hpart := rep_part hsz hr hv p.toNat q.toNat (by omega) (by omega)
  refine .inl ⟨_, w, ?_, New.refl w, hpart⟩
  have hq' : (match hi.map a.eval with | some v => (Instr.sliceBound v cap .sliceAcap).run P w | none => .ok l.length w) = .ok q.toNat w := by
    cases hi with
    | none => simp only [Option.some.injEq, AV.lit.injEq, Value.int.injEq, true_and] at hq; subst hq; simp
    | some o => simp [hk.kn.val hc hq, Instr.sliceBound, asIntOf, show 0 ≤ q ∧ q ≤ (cap : Int) from by omega]
  have hp' : (match lo.map a.eval with | some v => (Instr.sliceBound v q.toNat .sliceB).run P w | none => .ok 0 w) = .ok p.toNat w := by
    cases lo with
    | none => simp only [Option.some.injEq, AV.lit.injEq, Value.int.injEq, true_and] at hp; subst hp; simp
    | some o =>
      simp [hk.kn.val hc hp, Instr.sliceBound, asIntOf, h0]
      intro hh; omega
  have hb : (Instr.sliceBounds true l.length cap (lo.map a.eval) (hi.map a.eval) none).run P w = .ok (p.toNat, q.toNat, cap) w := by
    cases hi <;> cases lo <;> simp_all [Instr.sliceBounds]
  simp only [execOp, hv, Option.map_none, Instr.sliceAt, Sem.run_bind, run_underlying hu, Result.andThen_ok, Instr.slice, hb, sizeOf, typeInfo]
  simp [hinf, hs']
def argsA (σ : St) (c : Ch) : List Operand → Option (List AV)
  | [] => some []
  | x :: r => match opvc σ c x, argsA σ c r with
    | some y, some ys => some (y :: ys)
    | _, _ => none
theorem rep_args {ok : Nat → Prop} (hk : Knows ok a w n σ Df) (hc : holds a c) : ∀ {ps : List Operand} {xs : List AV}, argsA σ c ps = some xs → RepL ok w xs (ps.map a.eval)
  | [], xs, h => by simp only [argsA, Option.some.injEq] at h; subst h; exact repL_nil
  | x :: r, xs, h => by
    simp only [argsA] at h
    split at h
    · rename_i y ys h1 h2
      simp only [Option.some.injEq] at h
      subst h
      exact repL_cons (hk.rep hc h1) (rep_args hk hc h2)
    · cases h
theorem run_call {f : Operand} {fid : FuncId} {args : Array Operand} {tys : Array TypeId} {vs : Array Value} {fn : Func}
    (hv : a.eval f = .func (.func fid) #[] #[]) (ha : args.map a.eval = vs) (hf : P.funcs[fid]? = some fn) (hb : fn.body.isSome = true) (hn : (fn.name == "runtime.NumGoroutine") = false) :
    (execOp a.eval ⟨dst, .call { callee := .value f, args := args, argTypes := tys }, ty, pos, aft, g⟩).run P w = .ok (.enter fid vs) w := by
  have hb' : ¬ fn.body = none := by cases h : fn.body <;> simp_all
  have hn' : ¬ fn.name = "runtime.NumGoroutine" := by simpa using hn
  simp only [execOp, resolve, hv, ha, Deferred.ofValue, invoke]
  simp [callFunc, hf, hb', hn']
theorem f_call {f : Operand} {fid : FuncId} {ps : List Operand} {tys : Array TypeId} {fn : Func} {xs : List AV} (hk : S M w0 a w n I σ Df) (hc : holds a c) (hv : opvc σ c f = some (.lit (.func (.func fid) #[] #[]))) (hx : argsA σ c ps = some xs)
    (hf : P.funcs[fid]? = some fn) (hb : fn.body.isSome = true) (hn : (fn.name == "runtime.NumGoroutine") = false) (hok : Ok P fid xs u) :
    Fun P (okM M I) ⟨dst, .call { callee := .value f, args := ps.toArray, argTypes := tys }, ty, pos, aft, g⟩ a w u :=
  .inr ⟨fid, _, xs, run_call (hk.kn.val hc hv) rfl hf hb hn, by simpa using rep_args hk.kn hc hx, hok⟩
end
def start (i : Nat) : List AV → St
  | [] => []
  | v :: r => (i, [], v) :: start (i + 1) r
theorem look_start (vs : List AV) : ∀ (i j : Nat) (c : Ch) (v : AV), look (start i vs) j = some (c, v) → c = [] ∧ i ≤ j ∧ vs[j - i]? = some v := by
  induction vs with
  | nil => intro i j c v h; cases h
  | cons u r ih =>
    intro i j c v h
    simp only [start, look] at h
    cases hb : Nat.beq i j with
    | true =>
      simp only [hb, cond_true, Option.some.injEq, Prod.mk.injEq] at h
      obtain ⟨rfl, rfl⟩ := h
      have : i = j := Nat.eq_of_beq_eq_true hb
      subst this
      simp
    | false =>
      simp only [hb, cond_false] at h
      obtain ⟨h1, h2, h3⟩ := ih _ _ _ _ h
      refine ⟨h1, by omega, ?_⟩
      have : j - i = (j - (i + 1)) + 1 := by omega
      rw [this, List.getElem?_cons_succ]
      exact h3
theorem enter {P : Program} {f : FuncId} {fn : Func} {c : Code} {n : Nat} {xs : List AV} {y : AV} (hf : P.funcs[f]? = some fn) (hb : fn.body = some c) (hn : fn.ntmps = n) (hle : Nat.ble xs.length n = true)
    (h : ∀ M (w0 : Bs) a, S M w0 a w0.toWorld n [] (start 0 xs) → c.wp P (bodyPost P fn (RetB M w0 y)) a w0.toWorld) : Ok P f xs y := by
  intro M w vs hM hL
  refine calls_of_wp hf hb (h M ⟨w, fun _ => False⟩ _ ?_)
  have hle' : xs.length ≤ n := Nat.le_of_ble_eq_true hle
  have hsz : vs.size = xs.length := by rw [← hL.length]; simp
  refine ⟨Own.start hM, rfl, by simp [hn]; omega, ?_⟩
  intro i c' v hl
  obtain ⟨rfl, _, hv⟩ := look_start xs 0 i c' v hl
  refine ⟨fun _ => ?_, fun hh => absurd (holds_nil _) hh⟩
  simp only [Nat.sub_zero] at hv
  have hlt : i < vs.size := by
    have := (List.getElem?_eq_some_iff.1 hv).1
    omega
  obtain ⟨u, hu, hr⟩ := hL.get hv
  simp only [Array.getD_eq_getD_getElem?]
  rw [Array.getElem?_append_left (by simpa using hlt)]
  have hu' : vs[i]? = some u := by simpa using hu
  rw [hu']
  exact Rep.go (fun b hb _ => ⟨⟨hb, fun it hi => by simp at hi⟩, rfl⟩) v u hr
theorem enterH {P : Program} {f : FuncId} {fn : Func} {c : Code} {n : Nat} {xs : List AV} {I : List It} {Q : AV → List It → Prop} (hf : P.funcs[f]? = some fn) (hb : fn.body = some c) (hn : fn.ntmps = n) (hle : Nat.ble xs.length n = true)
    (h : ∀ M (w0 : Bs) a, S M w0 a w0.toWorld n I (start 0 xs) → c.wp P (bodyPost P fn (RetH M w0 Q)) a w0.toWorld) : OkH P f xs I Q := by
  intro M w vs hO hL
  refine calls_of_wp hf hb (h M ⟨w, footL I⟩ _ ?_)
  have hle' : xs.length ≤ n := Nat.le_of_ble_eq_true hle
  have hsz : vs.size = xs.length := by rw [← hL.length]; simp
  refine ⟨hO, rfl, by simp [hn]; omega, ?_⟩
  intro i c' v hl
  obtain ⟨rfl, _, hv⟩ := look_start xs 0 i c' v hl
  refine ⟨fun _ => ?_, fun hh => absurd (holds_nil _) hh⟩
  simp only [Nat.sub_zero] at hv
  have hlt : i < vs.size := by
    have := (List.getElem?_eq_some_iff.1 hv).1
    omega
  obtain ⟨u, hu, hr⟩ := hL.get hv
  simp only [Array.getD_eq_getD_getElem?]
  rw [Array.getElem?_append_left (by simpa using hlt)]
  have hu' : vs[i]? = some u := by simpa using hu
  rw [hu']
  exact hr
section
variable {P : Program} {M : Nat → Prop} {w0 : Bs} {w : World} {a : Act} {n : Nat} {I : List It} {σ : St} {ops : Array Oper} {Q : Exit → Act → World → Prop}
theorem wreg {id : Nat} {l : List Oper} {y : Code} (h : ∀ K : Act → World → Prop, (∀ a w, y.wp P Q a w → K a w) → wpList P l.toArray (Exit.then K Q) l a w) :
    (Code.seq (.region id l.toArray false) y).wp P Q a w := wp_seq_k fun K hK => wp_region_lit (h K hK)
theorem wreg1 {id : Nat} {l : List Oper} (h : wpList P l.toArray Q l a w) : (Code.region id l.toArray false).wp P Q a w := wp_region_lit h
theorem lend {K : Act → World → Prop} (h : K a w) : wpList P ops (Exit.then K Q) [] a w := h
theorem wseq {x y : Code} (h : ∀ K : Act → World → Prop, (∀ a w, y.wp P Q a w → K a w) → x.wp P (Exit.then K Q) a w) : (Code.seq x y).wp P Q a w := wp_seq_k h
theorem wseqJ {x y : Code} (J : Act → World → Prop) (hy : ∀ a w, J a w → y.wp P Q a w) (h : ∀ K : Act → World → Prop, (∀ a w, J a w → K a w) → x.wp P (Exit.then K Q) a w) : (Code.seq x y).wp P Q a w :=
  wp_seq_k fun K hK => h K fun a w hJ => hK a w (hy a w hJ)
theorem wcond {t : Operand} {x y : Code} {b : Bool} (hk : S M w0 a w n I σ Df) (ht : opvc σ [] t = some (.lit (.bool b))) (h1 : b = true → x.wp P Q a w) (h2 : b = false → y.wp P Q a w) :
    (Code.cond t x y).wp P Q a w := wp_cond_split (hk.kn.val (holds_nil a) ht) h1 h2
theorem wcondF {α : Type} {A B : Option α} {r : α} {t : Operand} {x y : Code} {b : Bool} (hk : S M w0 a w n I σ Df) (h : (if b = true then A else B) = some r) (ht : opvc σ [] t = some (.lit (.bool b))) (h1 : A = some r → b = true → x.wp P Q a w) (h2 : B = some r → b = false → y.wp P Q a w) :
    (Code.cond t x y).wp P Q a w := wcond hk ht (fun e => h1 (by rwa [if_pos e] at h) e) (fun e => h2 (by rwa [if_neg (by simp [e])] at h) e)
theorem then_normal {K : Act → World → Prop} (h : K a w) : Exit.then K Q .normal a w := h
theorem then_ret {K : Act → World → Prop} (h : Q .ret a w) : Exit.then K Q .ret a w := h
theorem block_ret {id : Nat} (h : Q .ret a w) : Exit.inBlock id Q .ret a w := h
theorem block_normal {id : Nat} (h : Q .normal a w) : Exit.inBlock id Q .normal a w := h
theorem then_exit {K : Act → World → Prop} {id : Nat} (h : Q (.exit id) a w) : Exit.then K Q (.exit id) a w := h
theorem block_exit {id : Nat} (h : Q .normal a w) : Exit.inBlock id Q (.exit id) a w := by
  show (if id = id then Q .normal a w else _); rw [if_pos rfl]; exact h
theorem block_exit_ne {id id' : Nat} (hne : Nat.beq id' id = false) (h : Q (.exit id') a w) : Exit.inBlock id Q (.exit id') a w := by
  have : ¬ id' = id := by intro e; subst e; simp at hne
  show (if id' = id then Q .normal a w else Q (.exit id') a w); rw [if_neg this]; exact h
theorem wloop {T : Type} {c : Code} (J : T → Act → World → Prop) (m : T → Nat) (s0 : T) (h0 : J s0 a w)
    (h : ∀ s a w, J s a w → ∀ K : Act → World → Prop, (∀ s' a' w', m s' < m s → J s' a' w' → K a' w') → c.wp P (Exit.then K Q) a w) : (Code.loop c).wp P Q a w := by
  refine wp_loop_ghost (fun k a w => ∃ s, m s = k ∧ J s a w) (m s0) ⟨s0, rfl, h0⟩ ?_
  rintro k a w ⟨s, rfl, hI⟩
  exact h s a w hI _ fun s' a' w' hlt hI' => ⟨m s', hlt, s', rfl, hI'⟩
theorem okM_le (M : Nat → Prop) (I : List It) (w : World) : Goes (okM M I) (fun b => ¬ M b) w w := fun b h _ => ⟨h.1, rfl⟩
theorem fret1 {fn : Func} {t : Nat} {y : AV} (hk : S M w0 a w n I σ) (hr : fn.results = #[.tmp t]) (hl : look σ t = some ([], y)) : bodyPost P fn (RetB M w0 y) .ret a w :=
  bodyPost_ret (results_tmp hr _ _ _) hk.kn.defers ⟨_, rfl, hk.own.frm, Rep.go (okM_le M I w) y _ (hk.kn.get hl)⟩
theorem fret0 {fn : Func} (hk : S M w0 a w n I σ) (hr : fn.results = #[]) : bodyPost P fn (RetB M w0 (.tup [])) .ret a w :=
  bodyPost_ret (results_none hr _ _ _) hk.kn.defers ⟨_, rfl, hk.own.frm, by simp [Rep, RepL]⟩
theorem fret2 {fn : Func} {t t' : Nat} {y y' : AV} (hk : S M w0 a w n I σ) (hr : fn.results = #[.tmp t, .tmp t']) (hl : look σ t = some ([], y)) (hl' : look σ t' = some ([], y')) : bodyPost P fn (RetB M w0 (.tup [y, y'])) .ret a w :=
  bodyPost_ret (results_tmp2 hr _ _ _) hk.kn.defers ⟨_, rfl, hk.own.frm, by
    simp only [Rep]
    exact ⟨_, rfl, repL_cons (Rep.go (okM_le M I w) y _ (hk.kn.get hl)) (repL_cons (Rep.go (okM_le M I w) y' _ (hk.kn.get hl')) repL_nil)⟩⟩
theorem results_tmp3' {fn : Func} {t u x : Tmp} (h : fn.results = #[.tmp t, .tmp u, .tmp x]) (tmps : Array Value) (P : Program) (w : World) :
    (results fn tmps).run P w = .ok (.tuple #[tmps.getD t undef, tmps.getD u undef, tmps.getD x undef]) w := by simp [results, h]
theorem fret3 {fn : Func} {t t' t'' : Nat} {y y' y'' : AV} (hk : S M w0 a w n I σ) (hr : fn.results = #[.tmp t, .tmp t', .tmp t'']) (hl : look σ t = some ([], y)) (hl' : look σ t' = some ([], y')) (hl'' : look σ t'' = some ([], y'')) : bodyPost P fn (RetB M w0 (.tup [y, y', y''])) .ret a w :=
  bodyPost_ret (results_tmp3' hr _ _ _) hk.kn.defers ⟨_, rfl, hk.own.frm, by
    simp only [Rep]
    exact ⟨_, rfl, repL_cons (Rep.go (okM_le M I w) y _ (hk.kn.get hl)) (repL_cons (Rep.go (okM_le M I w) y' _ (hk.kn.get hl')) (repL_cons (Rep.go (okM_le M I w) y'' _ (hk.kn.get hl'')) repL_nil))⟩⟩
theorem fnorm {fn : Func} {R : Ending → World → Prop} (h : bodyPost P fn R .ret a w) : bodyPost P fn R .normal a w := h
end
theorem chk {α : Type} {p : Prop} [Decidable p] {A : Option α} {r : α} (h : (if p then A else none) = some r) : p ∧ A = some r := by
  by_cases hp : p
  · rw [if_pos hp] at h; exact ⟨hp, h⟩
  · rw [if_neg hp] at h; cases h
theorem bnd {α β : Type} {x : Option β} {F : β → Option α} {r : α} (h : x.bind F = some r) : ∃ y, x = some y ∧ F y = some r := Option.bind_eq_some_iff.1 h
theorem bndG {α β : Type} {p : Prop} [Decidable p] {x : Option β} {d : β} {F : β → Option α} {r : α} (h : (if p then x else some d).bind F = some r) : ∃ y, (p → x = some y) ∧ F y = some r := by
  by_cases hp : p
  · rw [if_pos hp] at h; obtain ⟨y, h1, h2⟩ := bnd h; exact ⟨y, fun _ => h1, h2⟩
  · rw [if_neg hp] at h; exact ⟨d, fun h' => absurd h' hp, h⟩
end Go.Proofs.YtfbkgaandmebaaaGreat.FW
namespace Go.Proofs.YtfbkgaandmebaaaGreat.FW
variable {Df : List Deferred}
open Go.RowKit
set_option linter.unusedVariables false
theorem repR_one {ok : Nat → Prop} {w : World} {α : Type} (f : α → Value) : ∀ (l : List α) (r : List Value), RepR ok w (l.map fun x => [.lit (f x)]) (l.map f ++ r)
  | [], r => by simp [RepR]
  | x :: l, r => by
    simp only [List.map_cons, RepR]
    exact ⟨by simp only [RepP, List.cons_append]; exact ⟨f x, _, rfl, rep_lit rfl, trivial⟩, by simpa using repR_one f l r⟩
section
variable {P : Program} {M : Nat → Prop} {w0 : Bs} {w : World} {a : Act} {n : Nat} {I : List It} {σ : St} {c : Ch} {dst : Option Tmp} {ty : TypeId} {pos : String} {aft : Array Edge} {g : Option (Nat × Bool)} {x y : Operand} {u : AV}
theorem f_assignNil : Fun P (okM M I) ⟨dst, .assign (.const (.slice none 0 0)), ty, pos, aft, g⟩ a w (.row []) := .inl ⟨.slice none 0 0, w, by simp [execOp, Act.eval], New.refl w, by simp only [Rep]; exact ⟨none, 0, rfl, Nat.le_refl _, .inl trivial⟩⟩
end
def blk (b : Nat) (t : TypeId) (cs : List AV) : It where
  foot := fun k => k = b
  P := fun ok w => ∃ arr, w.heap[b]? = some (.cells arr t (0, 0)) ∧ RepL ok w cs arr.toList
  stable := fun hg _ _ hb ⟨arr, h1, h2⟩ => ⟨arr, (hb b rfl).trans h1, RepL.go hg cs _ h2⟩
def zeroA (keep : List Nat) (vs : List Value) : List AV := vs.zipIdx.map fun p => match p.1 with
  | .slice none 0 0 => bif keep.any (Nat.beq p.2) then .lit (.slice none 0 0) else .row []
  | v => .lit v
theorem rep_nil {ok : Nat → Prop} {w : World} : Rep ok w (.row []) (.slice none 0 0) := by simp only [Rep]; exact ⟨none, 0, rfl, Nat.le_refl _, .inl trivial⟩
theorem rep_zero {ok : Nat → Prop} {w : World} {keep : List Nat} : ∀ (vs : List Value) (k : Nat), RepL ok w ((vs.zipIdx k).map fun p => match p.1 with
    | .slice none 0 0 => bif keep.any (Nat.beq p.2) then .lit (.slice none 0 0) else .row []
    | v => .lit v) vs
  | [], k => by simp [RepL]
  | v :: vs, k => by
    rw [List.zipIdx_cons, List.map_cons]
    refine repL_cons ?_ (rep_zero vs (k + 1))
    split
    · rename_i h
      have h' : v = .slice none 0 0 := h
      subst h'
      cases keep.any (Nat.beq k) with
      | true => exact rep_lit rfl
      | false => exact rep_nil
    · exact rep_lit rfl
theorem repL_zeroA {ok : Nat → Prop} {w : World} (keep : List Nat) (vs : List Value) : RepL ok w (zeroA keep vs) vs := rep_zero vs 0
section
variable {P : Program} {M : Nat → Prop} {w0 : Bs} {w : World} {a : Act} {n : Nat} {I : List It} {σ : St} {c : Ch} {dst : Option Tmp} {ty : TypeId} {pos : String} {aft : Array Edge} {g : Option (Nat × Bool)} {x y : Operand} {u : AV} {ops : Array Oper} {Q : Exit → Act → World → Prop} {rest : List Oper} {d j b off : Nat} {t0 : TypeId} {cs : List AV}
theorem l_alloc {t : TypeId} {z : Value} {zs : List AV} (keep : List Nat) (hk : S M w0 a w n I σ Df) (hn : Nat.blt d n = true) (hf : chFree σ d = true) (hz : (P.info? t).bind (·.zero) = some z) (hzs : zeroA keep z.cells.toList = zs)
    (h : ∀ b a' w', S M w0 a' w' n (blk b t zs :: I) ((d, [], .lit (.pointer (some ⟨b, 0, none⟩))) :: σ) Df → wpList P ops Q rest a' w') :
    wpList P ops Q (⟨some d, .alloc t, ty, pos, aft, none⟩ :: rest) a w := by
  obtain ⟨inf, hi, hz'⟩ := Option.bind_eq_some_iff.1 hz
  subst hzs
  have hr : (execOp a.eval ⟨some d, .alloc t, ty, pos, aft, none⟩).run P w = .ok (.value (.pointer (some ⟨w.heap.size, 0, none⟩))) (w.alloc (.cells z.cells t)) := by
    simp [execOp, Instr.alloc, zeroValue, typeInfo, hi, hz', newVar, newRow]
  refine leff hk rfl rfl hn hf hr ?_ (rep_lit rfl) (fun a' hk' => h _ _ _ hk')
  refine hk.push (New.alloc w _) ⟨z.cells, heap_alloc_new w _, repL_zeroA _ _⟩ fun k hk => ?_
  have hk' : k = w.heap.size := hk
  subst hk'
  simp
theorem f_fieldPtr {t : TypeId} {fs : Array Field} {k o' : Nat} {f : Field} (hk : S M w0 a w n I σ Df) (hc : holds a c) (hx : opvc σ c x = some (.lit (.pointer (some ⟨b, off, none⟩)))) (hu : P.underlying t = some (.struct fs)) (hf : fs[k]? = some f)
    (hs : ((P.info? f.type).map fun i => Nat.beq i.size 0) = some false) (ho : off + f.offset = o') : Fun P (okM M I) ⟨dst, .fieldAddr t x k, ty, pos, aft, g⟩ a w (.lit (.pointer (some ⟨b, o', none⟩))) := by
  subst ho
  obtain ⟨inf, hinf, hs'⟩ := Option.map_eq_some_iff.1 hs
  have hs0 : ¬ inf.size = 0 := by intro e; rw [e] at hs'; simp at hs'
  refine .inl ⟨_, w, ?_, New.refl w, rep_lit rfl⟩
  simp [execOp, hk.kn.val hc hx, Instr.fieldAt, run_underlying hu, hf, Instr.sureAddr, fieldPlace, sizeOf, typeInfo, hinf, hs0, add_addr]
theorem f_loadBlk1 {t : TypeId} {D : TypeDesc} (hk : S M w0 a w n I σ Df) (hc : holds a c) (hj : I[j]? = some (blk b t0 cs)) (hx : opvc σ c x = some (.lit (.pointer (some ⟨b, off, none⟩)))) (hu : P.underlying t = some D) (hd : isAggD D = false) (hy : cs[off]? = some u) :
    Fun P (okM M I) ⟨dst, .load t x, ty, pos, aft, g⟩ a w u := by
  obtain ⟨arr, hh, hL⟩ := hk.own.get hj
  obtain ⟨v, hv', hr⟩ := hL.get hy
  have hcell : w.cell? ⟨b, off, none⟩ = some v := by
    rw [cell_of_row w b off arr t0 (0, 0) hh]; simpa using hv'
  refine .inl ⟨v, w, ?_, New.refl w, hr⟩
  have : (isAgg t).run P w = .ok false w := by
    simp only [isAgg, Sem.run_bind, run_underlying hu, Result.andThen_ok]
    cases D <;> simp_all [isAggD]
  simp only [execOp, hk.kn.val hc hx, Instr.loadAt, Instr.sureAddr, Sem.run_bind, Sem.run_pure, Result.andThen_ok, loadVar, this]
  simp [load, Sem.run, hcell]
theorem load_at {t : TypeId} {D : TypeDesc} {sz : Nat} {arr : Array Value} {e : TypeId} {fr : Nat × Nat} (hh : w.heap[b]? = some (.cells arr e fr)) (hu : P.underlying t = some D) (hd : isAggD D = true) (hs : (P.info? t).map (·.size) = some sz) (hl : off + sz ≤ arr.size) :
    (loadVar t ⟨b, off, none⟩).run P w = .ok (.agg ((arr.toList.drop off).take sz).toArray) w := by
  obtain ⟨inf, hinf, hs'⟩ := Option.map_eq_some_iff.1 hs
  have hlen' : ((arr.toList.drop off).take sz).length = sz := by
    rw [List.length_take, List.length_drop, Array.length_toList]; omega
  have hagg : (isAgg t).run P w = .ok true w := by
    simp only [isAgg, Sem.run_bind, run_underlying hu, Result.andThen_ok]
    cases D <;> simp_all [isAggD]
  have hld := loadCells_at (P := P) w b off arr e fr ((arr.toList.drop off).take sz) hh (fun j v hj => by
    rw [List.getElem?_take] at hj
    split at hj
    · rw [List.getElem?_drop] at hj; simpa using hj
    · cases hj)
  rw [hlen'] at hld
  simp only [loadVar, Sem.run_bind, hagg, Result.andThen_ok, if_true]
  simp [sizeOf, typeInfo, hinf, hs', hld]
theorem f_loadBlk {t : TypeId} {D : TypeDesc} {sz : Nat} {ys : List AV} (hk : S M w0 a w n I σ Df) (hc : holds a c) (hj : I[j]? = some (blk b t0 cs)) (hx : opvc σ c x = some (.lit (.pointer (some ⟨b, off, none⟩)))) (hu : P.underlying t = some D) (hd : isAggD D = true)
    (hs : (P.info? t).map (·.size) = some sz) (hy : (cs.drop off).take sz = ys) (hl : Nat.ble (off + sz) cs.length = true) : Fun P (okM M I) ⟨dst, .load t x, ty, pos, aft, g⟩ a w (.agg ys) := by
  obtain ⟨arr, hh, hL⟩ := hk.own.get hj
  have hle := Nat.le_of_ble_eq_true hl
  have hal : arr.size = cs.length := by rw [← hL.length]; simp
  subst hy
  refine .inl ⟨.agg ((arr.toList.drop off).take sz).toArray, w, ?_, New.refl w, ?_⟩
  · have hld := load_at (P := P) (off := off) (sz := sz) hh hu hd hs (by omega)
    simp only [execOp, hk.kn.val hc hx, Instr.loadAt, Instr.sureAddr, Sem.run_bind, Sem.run_pure, Result.andThen_ok, hld]
  · simp only [Rep]
    exact ⟨_, rfl, by simpa using (hL.drop off).take sz⟩
theorem l_storeV {t : TypeId} {cs' : List AV} {I' : List It} (hk : S M w0 a w n I σ Df) (hj : I[j]? = some (blk b t0 cs)) (hx : opvc σ [] x = some (.lit (.pointer (some ⟨b, off, none⟩)))) (hy : Rep (okM M I) w u (a.eval y)) (hw : wholeA u = true)
    (hl : Nat.ble (off + (cellsA u).length) cs.length = true) (hs : (P.info? t).map (·.size) = some (cellsA u).length) (hcs : putA off (cellsA u) cs = cs') (hI : I.set j (blk b t0 cs') = I')
    (h : ∀ w', S M w0 a w' n I' σ Df → wpList P ops Q rest a w') : wpList P ops Q (⟨none, .store t x y, ty, pos, aft, none⟩ :: rest) a w := by
  obtain ⟨arr, hh, hL⟩ := hk.own.get hj
  have hle := Nat.le_of_ble_eq_true hl
  have hal : arr.size = cs.length := by rw [← hL.length]; simp
  obtain ⟨inf, hinf, hs'⟩ := Option.map_eq_some_iff.1 hs
  obtain ⟨hv, h1⟩ := rep_cells hy hw
  have hvl : (a.eval y).cells.toList.length = (cellsA u).length := hv.length
  have hst := run_storeCells_at (P := P) b off t0 (a.eval y).cells.toList 0 arr w hh (by omega) h1
  simp only [Nat.add_zero] at hst
  have hr : (execOp a.eval ⟨none, .store t x y, ty, pos, aft, none⟩).run P w = .ok .skip (w.setRow b (arr.toList.take off ++ (a.eval y).cells.toList ++ arr.toList.drop (off + (a.eval y).cells.toList.length)).toArray) := by
    have hsz : (a.eval y).cells.size = inf.size := by rw [hs', ← hvl]; simp
    simp only [execOp, hk.kn.val (holds_nil a) hx, Instr.storeAt, Instr.sureAddr, storeVar]
    have hso : (sizeOf t).run P w = .ok inf.size w := by simp [sizeOf, typeInfo, hinf]
    simp only [Sem.run_bind, Sem.run_pure, Result.andThen_ok, hso]
    simp [hsz]
    have hst' := hst
    simp [hsz] at hst'
    rw [hst']
    rfl
  subst hcs; subst hI
  refine lskip hk rfl rfl hr ?_ (fun hk' => h _ hk')
  refine hk.upd hj (Frm.setRow w b _) ⟨_, setRow_heap w b arr _ t0 (0, 0) hh, ?_⟩ fun k hk' => ⟨.inl hk', ?_⟩
  · have hgo : Goes (okM M I) (okM M (I.set j (blk b t0 (putA off (cellsA u) cs)))) w (w.setRow b (arr.toList.take off ++ (a.eval y).cells.toList ++ arr.toList.drop (off + (a.eval y).cells.toList.length)).toArray) :=
      Goes.upd hk.own hj (Frm.setRow w b _) fun k hk' => ⟨.inl hk', by
        have : k < w.heap.size := (hk.own.lt hj (k := k) hk').2
        simpa [World.setRow] using this⟩
    refine RepL.go hgo _ _ ?_
    unfold putA
    rw [← hvl]
    exact ((hL.take off).append hv).append (hL.drop _)
  · have : k < w.heap.size := (hk.own.lt hj (k := k) hk').2
    simpa [World.setRow] using this
theorem l_store {t : TypeId} {cs' : List AV} {I' : List It} (hk : S M w0 a w n I σ Df) (hj : I[j]? = some (blk b t0 cs)) (hx : opvc σ [] x = some (.lit (.pointer (some ⟨b, off, none⟩)))) (hy : opvc σ [] y = some u) (hw : wholeA u = true)
    (hl : Nat.ble (off + (cellsA u).length) cs.length = true) (hs : (P.info? t).map (·.size) = some (cellsA u).length) (hcs : putA off (cellsA u) cs = cs') (hI : I.set j (blk b t0 cs') = I')
    (h : ∀ w', S M w0 a w' n I' σ Df → wpList P ops Q rest a w') : wpList P ops Q (⟨none, .store t x y, ty, pos, aft, none⟩ :: rest) a w :=
  l_storeV hk hj hx (hk.kn.rep (holds_nil a) hy) hw hl hs hcs hI h
theorem res_cell {fn : Func} {tt : Nat} {t : TypeId} {D : TypeDesc} (hk : S M w0 a w n I σ Df) (hl : look σ tt = some ([], .lit (.pointer (some ⟨b, 0, none⟩)))) (hj : I[j]? = some (blk b t0 cs)) (hu : P.underlying t = some D) (hd : isAggD D = true)
    (hs : (P.info? t).map (·.size) = some cs.length) : ∃ v, (do loadVar t (← asAddr (a.tmps.getD tt undef)) : Sem Value).run P w = .ok v w ∧ Rep (okM M I) w (.agg cs) v := by
  obtain ⟨arr, hh, hL⟩ := hk.own.get hj
  have hal : arr.size = cs.length := by rw [← hL.length]; simp
  have hp : a.tmps.getD tt undef = .pointer (some ⟨b, 0, none⟩) := by simpa [Rep] using hk.kn.get hl
  refine ⟨.agg arr, ?_, ?_⟩
  · have h1 := load_at (P := P) (off := 0) hh hu hd hs (by omega)
    have e1 : ((arr.toList.drop 0).take cs.length).toArray = arr := by
      rw [List.drop_zero, List.take_of_length_le (by simp; omega)]
    rw [e1] at h1
    rw [hp]
    simp [asAddr, h1]
  · have := hL
    simp only [Rep]
    exact ⟨arr, rfl, this⟩
inductive RRes (P : Program) (ok : Nat → Prop) (a : Act) (w : World) : ResultVar → AV → Prop where
  | tmp {t : Nat} {y : AV} (h : Rep ok w y (a.tmps.getD t undef)) : RRes P ok a w (.tmp t) y
  | cell {tt : Nat} {t : TypeId} {y : AV} (h : ∃ v, (do loadVar t (← asAddr (a.tmps.getD tt undef)) : Sem Value).run P w = .ok v w ∧ Rep ok w y v) : RRes P ok a w (.cell tt t) y
theorem rtmp {t : Nat} {y : AV} (hk : S M w0 a w n I σ Df) (hl : look σ t = some ([], y)) : RRes P (okM M I) a w (.tmp t) y := .tmp (hk.kn.get hl)
theorem rcell {tt : Nat} {t : TypeId} {D : TypeDesc} (hk : S M w0 a w n I σ Df) (hl : look σ tt = some ([], .lit (.pointer (some ⟨b, 0, none⟩)))) (hj : I[j]? = some (blk b t0 cs)) (hu : P.underlying t = some D) (hd : isAggD D = true)
    (hs : (P.info? t).map (·.size) = some cs.length) : RRes P (okM M I) a w (.cell tt t) (.agg cs) := .cell (res_cell (fn := default) hk hl hj hu hd hs)
def resOf (tmps : Array Value) : ResultVar → Sem Value
  | .tmp t => pure (tmps.getD t undef)
  | .cell a t => do loadVar t (← asAddr (tmps.getD a undef))
theorem results_eq (fn : Func) (tmps : Array Value) : results fn tmps = (do let vs ← fn.results.mapM (resOf tmps); pure (if h : vs.size = 1 then vs[0] else .tuple vs)) := rfl
theorem run_res {ok : Nat → Prop} {r : ResultVar} {y : AV} (h : RRes P ok a w r y) : ∃ v, (resOf a.tmps r).run P w = .ok v w ∧ Rep ok w y v := by
  cases h with
  | tmp h => exact ⟨_, by simp only [resOf, Sem.run_pure], h⟩
  | cell h => exact h
theorem fretR1 {fn : Func} {r1 : ResultVar} {y1 : AV} (hk : S M w0 a w n I σ) (hr : fn.results = #[r1]) (h1 : RRes P (okM M I) a w r1 y1) : bodyPost P fn (RetB M w0 y1) .ret a w := by
  obtain ⟨v1, e1, p1⟩ := run_res h1
  replace p1 := Rep.go (okM_le M I w) _ _ p1
  refine bodyPost_ret (v := v1) ?_ hk.kn.defers ⟨_, rfl, hk.own.frm, p1⟩
  rw [results_eq, hr]
  simp [e1]
theorem fretH0 {fn : Func} {Q : AV → List It → Prop} (hk : S M w0 a w n I σ) (hr : fn.results = #[]) (hq : Q (.tup []) I) : bodyPost P fn (RetH M w0 Q) .ret a w :=
  bodyPost_ret (results_none hr _ _ _) hk.kn.defers ⟨_, _, _, rfl, hq, hk.own, by simp [Rep, RepL]⟩
theorem fretH1 {fn : Func} {Q : AV → List It → Prop} {r1 : ResultVar} {y1 : AV} (hk : S M w0 a w n I σ) (hr : fn.results = #[r1]) (h1 : RRes P (okM M I) a w r1 y1) (hq : Q y1 I) : bodyPost P fn (RetH M w0 Q) .ret a w := by
  obtain ⟨v1, e1, p1⟩ := run_res h1
  refine bodyPost_ret (v := v1) ?_ hk.kn.defers ⟨_, _, _, rfl, hq, hk.own, p1⟩
  rw [results_eq, hr]
  simp [e1]
theorem fretH2 {fn : Func} {Q : AV → List It → Prop} {r1 r2 : ResultVar} {y1 y2 : AV} (hk : S M w0 a w n I σ) (hr : fn.results = #[r1, r2]) (h1 : RRes P (okM M I) a w r1 y1) (h2 : RRes P (okM M I) a w r2 y2) (hq : Q (.tup [y1, y2]) I) : bodyPost P fn (RetH M w0 Q) .ret a w := by
  obtain ⟨v1, e1, p1⟩ := run_res h1
  obtain ⟨v2, e2, p2⟩ := run_res h2
  refine bodyPost_ret (v := .tuple #[v1, v2]) ?_ hk.kn.defers ⟨_, _, _, rfl, hq, hk.own, by simp only [Rep]; exact ⟨_, rfl, repL_cons p1 (repL_cons p2 repL_nil)⟩⟩
  rw [results_eq, hr]
  simp [e1, e2]
theorem fretH3 {fn : Func} {Q : AV → List It → Prop} {r1 r2 r3 : ResultVar} {y1 y2 y3 : AV} (hk : S M w0 a w n I σ) (hr : fn.results = #[r1, r2, r3]) (h1 : RRes P (okM M I) a w r1 y1) (h2 : RRes P (okM M I) a w r2 y2) (h3 : RRes P (okM M I) a w r3 y3) (hq : Q (.tup [y1, y2, y3]) I) : bodyPost P fn (RetH M w0 Q) .ret a w := by
  obtain ⟨v1, e1, p1⟩ := run_res h1
  obtain ⟨v2, e2, p2⟩ := run_res h2
  obtain ⟨v3, e3, p3⟩ := run_res h3
  refine bodyPost_ret (v := .tuple #[v1, v2, v3]) ?_ hk.kn.defers ⟨_, _, _, rfl, hq, hk.own, by simp only [Rep]; exact ⟨_, rfl, repL_cons p1 (repL_cons p2 (repL_cons p3 repL_nil))⟩⟩
  rw [results_eq, hr]
  simp [e1, e2, e3]
end
theorem repL_lits_eq {ok : Nat → Prop} {w : World} : ∀ {us vs : List Value}, RepL ok w (us.map .lit) vs → vs = us
  | [], vs, h => by simpa [RepL] using h
  | u :: us, vs, h => by
    simp only [List.map_cons, RepL] at h
    obtain ⟨v, r, rfl, h1, h2⟩ := h
    simp only [Rep] at h1
    rw [h1, repL_lits_eq h2]
theorem ok_lit {P : Program} {f : FuncId} {us : List Value} {y : AV} {v : Value} (h : ∀ w, Calls P f us.toArray w fun e w' => e = .returned v ∧ w' = w) (hy : ∀ ok w, Rep ok w y v) : Ok P f (us.map .lit) y := by
  intro M w vs hM hL
  have e := repL_lits_eq hL
  have e' : vs = us.toArray := by rw [← e]
  rw [e']
  refine (h w).mono ?_
  rintro e w' ⟨rfl, rfl⟩
  exact ⟨v, rfl, New.refl _, hy _ _⟩
end Go.Proofs.YtfbkgaandmebaaaGreat.FW
namespace Go.Proofs.YtfbkgaandmebaaaGreat
open Go.ChangeShapes Go.WideShapes Go.ChangeAt Go.RowKit
set_option linter.unusedVariables false
section
variable {H : Type} {enc : TypeId × Value → H} {P : Program}
theorem post_of_below {f : Func} {s : ChangeSpec} {apart fresh handsOn again : Bool} {W W' : World} {args : Array Value} {v : Value} {ds gs : List (DataW H)} {before pa pv : List MemPlace}
    (hW : DataW.Whole enc P f.params.toList s.vars apart W args.toList ds gs before)
    (hres : ∀ (b : Nat) (sp : Nat → Bool) (hd : Bool), DataW.TrodAll enc P W' b sp hd f.resultTypes.toList (v.resultList f.resultTypes.size) (s.fn H (ds ++ gs)).results [])
    (hargs : ∀ sp : Nat → Bool, (∀ p ∈ before, sp p.block = true) → DataW.TrodAll enc P W' 0 sp true f.params.toList args.toList (s.fn H (ds ++ gs)).args pa)
    (hvars : ∀ sp : Nat → Bool, (∀ p ∈ before, sp p.block = true) → DataW.TrodVars enc P W' sp s.vars (s.fn H (ds ++ gs)).vars pv)
    (hps : before = pa ++ pv) (hb : Below W.heap.size W W')
    (hok : ∀ (j : Nat) (t : TypeId) (r : Value), f.resultTypes[j]? = some t → (v.resultList f.resultTypes.size)[j]? = some r → Value.okWide P W' .any 0 t r) :
    s.post enc P f apart fresh handsOn again W args v W' := by
  have hlt : ∀ p ∈ before, p.block < W.heap.size := fun p hp => hW.lt p hp
  have hold : ∀ p ∈ before, (fun b => decide (b < W.heap.size)) p.block = true := fun p hp => by simpa using hlt p hp
  refine ⟨ds, gs, before, [], pa, pv, hW, hres _ _ _, hargs _ hold, hvars _ hold, World.keptBut_mono (fun p hp => ⟨hp, ?_⟩) (hb.frame (· ∈ before)), fun _ => ?_⟩
  · rw [hps, List.mem_append] at hp
    exact Or.inr hp
  · obtain ⟨_, _, _, _, _, hz, hn⟩ := hW
    refine ⟨hok, _, _, ([] ++ pa) ++ pv, ⟨[] ++ pa, pv, trodAll_append (hargs _ (fun _ _ => rfl)) (hres _ _ _), hvars _ (fun _ _ => rfl), rfl, ?_, ?_⟩, ?_⟩
    · intro b off hp
      have hin : MemPlace.cell b off ∈ before := by rw [hps]; simpa using hp
      rw [hb.frozen (hlt _ hin)]
      exact hz b off hin
    · intro ha
      have := hn ha
      rw [hps] at this
      simpa using this
    · intro p hp _
      rw [hps]
      simpa using hp
end
theorem calls_of_ok {P : Program} {f : FuncId} {xs : List FW.AV} {vs : Array Value} {W : World} (h : FW.Ok P f xs (.lit (.bool true))) (hv : FW.RepL (fun _ => ¬ False) W xs vs.toList) :
    Calls P f vs W fun e W' => e = .returned (.bool true) ∧ Below W.heap.size W W' := by
  refine (h (fun _ => False) W vs (fun _ h => h.elim) hv).mono ?_
  rintro e w' ⟨v, rfl, hn, hr⟩
  simp only [FW.Rep] at hr
  subst hr
  exact ⟨rfl, hn.below⟩
theorem B_data (s : ByteArray) : FW.B s.data.toList = s := by cases s; simp [FW.B]
end Go.Proofs.YtfbkgaandmebaaaGreat
namespace Go.Proofs.YtfbkgaandmebaaaGreat
open Go.ChangeShapes Go.WideShapes Go.ChangeAt Go.RowKit
set_option linter.unusedVariables false
set_option linter.unusedSectionVars false
namespace FW
def OpenT (P : Program) (W : World) (t : TypeId) {α : Type} (f : α → List AV) (Pr : α → Prop) : Prop :=
  ∀ {H : Type} (enc : TypeId × Value → H) (sp : Nat → Bool) (n : Nat) (cs : List Value) (x : DataW H × List MemPlace), DataW.trod enc P W 0 sp true n t cs = some x → ∃ v : α, Pr v ∧ RepL (fun _ => ¬ False) W (f v) cs
section
variable {P : Program} {W : World} {t e : TypeId}
theorem openT_int {k : IntKind} (ht : P.underlying t = some (.int k)) : OpenT P W t (fun n => [.lit (.int k n)]) (fun n => (Lit.int k n).wf = true) := by
  intro H enc sp n cs x h
  obtain ⟨m, rfl, _, hw⟩ := DataW.trod_int ht h
  exact ⟨m, hw, repL_cons (rep_lit rfl) repL_nil⟩
theorem openT_bool (ht : P.underlying t = some .bool) : OpenT P W t (fun b => [.lit (.bool b)]) (fun _ => True) := by
  intro H enc sp n cs x h
  obtain ⟨b, rfl, _⟩ := DataW.trod_bool ht h
  exact ⟨b, trivial, repL_cons (rep_lit rfl) repL_nil⟩
theorem openT_str (ht : P.underlying t = some .string) : OpenT P W t (fun s => [.lit (.string (B s))]) (fun s => s.length ≤ maxLen) := by
  intro H enc sp n cs x h
  obtain ⟨s, rfl, _, hs⟩ := DataW.trod_string ht h
  exact ⟨s.data.toList, by simpa using hs, repL_cons (rep_lit (by rw [B_data])) repL_nil⟩
theorem seg_cons {ok : Nat → Prop} {xs ys : List AV} {cs : List Value} {off m r : Nat} (h : RepL ok W xs ((cs.drop off).take m)) (h' : RepL ok W ys ((cs.drop (off + m)).take r)) : RepL ok W (xs ++ ys) ((cs.drop off).take (m + r)) := by
  rw [List.take_add, List.drop_drop]
  exact h.append h'
theorem seg_all {ok : Nat → Prop} {xs : List AV} {cs : List Value} {m : Nat} (h : RepL ok W xs ((cs.drop 0).take m)) (hl : cs.length = m) : RepL ok W xs cs := by
  rw [List.drop_zero, List.take_of_length_le (by omega)] at h
  exact h
theorem open_fld {H : Type} {enc : TypeId × Value → H} {sp : Nat → Bool} {n : Nat} {cs : List Value} {xs : List (DataW H × List MemPlace)} {fs : Array Field} {α : Type} {f : α → List AV} {Pr : α → Prop} {i : Nat} {fd : Field} {off m : Nat}
    (hx : ∀ (i : Nat) (f : Field), fs[i]? = some f → DataW.trod enc P W 0 sp true n f.type ((cs.drop f.offset).take (P.cellsOf f.type)) = xs[i]?) (hl : xs.length = fs.size) (hf : fs[i]? = some fd) (ho : fd.offset = off) (hm : P.cellsOf fd.type = m) (hO : OpenT P W fd.type f Pr) :
    ∃ v : α, Pr v ∧ RepL (fun _ => ¬ False) W (f v) ((cs.drop off).take m) := by
  have h1 := hx i fd hf
  have hlt : i < xs.length := by
    rw [hl]
    exact (Array.getElem?_eq_some_iff.1 hf).1
  rw [List.getElem?_eq_getElem hlt] at h1
  rw [ho, hm] at h1
  exact hO enc sp n _ _ h1
theorem repR_at {ok : Nat → Prop} {α : Type} {f : α → List AV} {sz : Nat} (hsz : ∀ x, (f x).length = sz) : ∀ (l : List α) (vs : List Value), (∀ (i : Nat) (v : α), l[i]? = some v → RepL ok W (f v) ((vs.drop (i * sz)).take sz)) → RepR ok W (l.map f) vs
  | [], vs, _ => by simp [RepR]
  | x :: l, vs, h => by
    simp only [List.map_cons, RepR]
    refine ⟨?_, ?_⟩
    · have h0 := h 0 x rfl
      rw [Nat.zero_mul, List.drop_zero] at h0
      have := h0.toP (vs.drop sz)
      rwa [List.take_append_drop] at this
    · rw [hsz]
      refine repR_at hsz l _ fun i v hi => ?_
      have := h (i + 1) v (by simpa using hi)
      rw [List.drop_drop]
      rwa [Nat.add_mul, Nat.one_mul, Nat.add_comm] at this
theorem list_of {α : Type} {p : Nat → α → Prop} : ∀ n : Nat, (∀ i, i < n → ∃ v, p i v) → ∃ l : List α, l.length = n ∧ ∀ (i : Nat) (v : α), l[i]? = some v → p i v
  | 0, _ => ⟨[], rfl, fun i v h => by simp at h⟩
  | n + 1, h => by
    obtain ⟨l, hl, hp⟩ := list_of n fun i hi => h i (by omega)
    obtain ⟨v, hv⟩ := h n (by omega)
    refine ⟨l ++ [v], by simp [hl], fun i u hi => ?_⟩
    by_cases hin : i < l.length
    · rw [List.getElem?_append_left hin] at hi; exact hp i u hi
    · rw [List.getElem?_append_right (by omega)] at hi
      have h0 : i - l.length = 0 := by
        have := (List.getElem?_eq_some_iff.1 hi).1
        simp at this; omega
      rw [h0] at hi
      simp only [List.getElem?_cons_zero, Option.some.injEq] at hi
      have : i = n := by omega
      rw [this, ← hi]; exact hv
theorem openT_slice {α : Type} {f : α → List AV} {Pr : α → Prop} {sz : Nat} {R : List α → List (List AV)} (hR : ∀ l, R l = l.map f) (ht : P.underlying t = some (.slice e)) (hc : P.cellsOf e = sz) (hsz : ∀ x, (f x).length = sz) (hpos : 0 < sz) (hO : OpenT P W e f Pr) :
    OpenT P W t (fun l => [.row (R l)]) (fun l => ∀ x ∈ l, Pr x) := by
  intro H enc sp n cs x h
  rcases Go.Deep.open_slice ht h with ⟨rfl, _⟩ | ⟨a, len, cap, m, n', D, Pl, rfl, _, hlc, _, hm, _, hx⟩
  · exact ⟨[], by simp, repL_cons (by rw [hR]; simp only [Rep, List.map_nil]; exact ⟨none, 0, rfl, Nat.le_refl _, .inl trivial⟩) repL_nil⟩
  have hlm : len ≤ m := by
    rw [hm]; split <;> omega
  rw [hc] at hx
  obtain ⟨l, hl, hp⟩ := list_of (α := α) (p := fun i v => Pr v ∧ ∃ cs', W.cells? 0 (a.add (i * sz)) sz = some cs' ∧ RepL (fun _ => ¬ False) W (f v) cs') len (fun i hi => by
    obtain ⟨cs', h1, h2⟩ := hx i (by omega)
    obtain ⟨v, hv, hr⟩ := hO enc sp n' cs' _ h2
    exact ⟨v, hv, cs', h1, hr⟩)
  refine ⟨l, fun x hx' => ?_, ?_⟩
  · obtain ⟨i, hi⟩ := List.mem_iff_getElem?.1 hx'
    exact (hp i x hi).1
  refine repL_cons ?_ repL_nil
  rw [hR]
  simp only [Rep, List.length_map]
  refine ⟨some a, cap, by rw [hl], by omega, ?_⟩
  by_cases h0 : l = []
  · left; subst h0; rfl
  right
  obtain ⟨b, off, spot⟩ := a
  have hl0 : 0 < l.length := List.length_pos_iff.2 h0
  obtain ⟨_, cs0, hc0, _⟩ := hp 0 _ (List.getElem?_eq_getElem hl0)
  obtain ⟨_, _, hcell0⟩ := World.cells?_some hc0
  have hcs0 : cs0.length = sz := (World.cells?_some hc0).2.1
  have h1 := hcell0 0 hpos
  have h2 : ∃ v, cs0[0]? = some v := ⟨cs0[0]'(by omega), List.getElem?_eq_getElem (by omega)⟩
  obtain ⟨v0, hv0⟩ := h2
  rw [hv0] at h1
  unfold World.cell? at h1
  have hblk : ((⟨b, off, spot⟩ : Addr).add (0 * sz)).add 0 = ⟨b, off, spot⟩ := by
    cases spot <;> simp [Addr.add]
  rw [hblk] at h1
  split at h1
  · rename_i arr el fr hh
    split at h1
    · cases h1
    · rename_i hsp
      have hspot : spot = none := by
        cases spot with
        | none => rfl
        | some s => simp at hsp
      subst hspot
      refine ⟨b, off, arr, el, fr, rfl, fun h => h, hh, repR_at hsz l _ fun i v hi => ?_⟩
      obtain ⟨_, cs', hc', hr⟩ := hp i v hi
      obtain ⟨_, hlen, hcell⟩ := World.cells?_some hc'
      have e1 : cs' = ((arr.toList.drop off).drop (i * sz)).take sz := by
        apply List.ext_getElem?
        intro q
        by_cases hq : q < sz
        · rw [← hcell q hq, List.getElem?_take, if_pos hq, List.getElem?_drop, List.getElem?_drop, add_addr, add_addr, cell_of_row W b _ arr el fr hh]
          simp [Nat.add_assoc]
        · rw [List.getElem?_eq_none (by omega), List.getElem?_eq_none (by rw [List.length_take]; omega)]
      rw [← e1]; exact hr
  · cases h1
theorem open_row {α : Type} {Pr : List α → Prop} {R : List α → List (List AV)} {H : Type} {enc : TypeId × Value → H} {r : Reach} {b0 : Nat} {sp : Nat → Bool} {v : Value} {d : DataW H} {ps : List MemPlace} (ht : P.underlying t = some (.slice e)) (hO : OpenT P W t (fun l : List α => [.row (R l)]) Pr)
    (hval : Value.okWide P W r b0 t v) (hd : DataW.Trod enc P W 0 sp true t v d ps) : ∃ l : List α, Pr l ∧ Rep (fun _ => ¬ False) W (.row (R l)) v := by
  obtain ⟨a, len, cap, rfl⟩ := okWide_slice ht hval
  obtain ⟨n, hn⟩ := hd
  obtain ⟨l, hl, hr⟩ := hO enc sp n _ _ hn
  simp only [Value.cells, RepL] at hr
  obtain ⟨v, r, hv, h1, _⟩ := hr
  simp only [List.cons.injEq] at hv
  exact ⟨l, hl, by rw [hv.1]; exact h1⟩
end
end FW
end Go.Proofs.YtfbkgaandmebaaaGreat
namespace Go.Proofs.YtfbkgaandmebaaaGreat
def bits_Mul64.f (v0 v1 : Int) : Option (Int × Int) := if (0 ≤ v0 ∧ v0 < 18446744073709551616) ∧ 0 ≤ v1 ∧ v1 < 18446744073709551616 then some (v0 * v1 / 18446744073709551616, v0 * v1 % 18446744073709551616) else none
end Go.Proofs.YtfbkgaandmebaaaGreat
namespace Go.Proofs.YtfbkgaandmebaaaGreat.FW
def sortK {ν : Type} (m : List (Int × ν)) : List Int := (m.map (·.1)).mergeSort fun x y => decide (x ≤ y)
end Go.Proofs.YtfbkgaandmebaaaGreat.FW
namespace Go.Proofs.YtfbkgaandmebaaaGreat.FW
variable {Df : List Deferred}
open Go.RowKit
set_option linter.unusedVariables false
set_option linter.unusedSimpArgs false
section
variable {P : Program} (w : World)
theorem run_append_src (t tx ty e : TypeId) (i : TypeInfo) (z : Value) (ht : P.underlying t = some (.slice e)) (hi : P.info? e = some i) (hz : i.zero = some z) (hzs : z.cells.size = i.size)
    (v : Value) (n : Nat) (xs : List Value) (hown : w.ownsRow 0 e i.size v n xs) (x : Value) (m : Nat) (news : List Value) (hs : Src P i.size tx x m news w)
    (h63 : n + m ≤ maxLen) (hbytes : (n + m) * i.bytes ≤ 140737488355328) :
    ∃ v' w', (Builtin.append_ #[t, tx] ty #[v, x]).run P w = .ok v' w' ∧ w'.ownsRow 0 e i.size v' (n + m) (xs ++ news) ∧ w.grownBy w' v.ownBlock ∧ (v'.ownBlock = v.ownBlock ∨ v'.ownBlock = some w.heap.size) := by
  have hsmall : n + m ≤ 9223372036854775807 := by simp only [maxLen] at h63; omega
  have hlen : (xs ++ news).length = (n + m) * i.size := by rw [List.length_append, hown.1, hs.newsLen, Nat.add_mul]
  have grown : ∀ (old : Nat), old < n + m → ∀ (row : Option Nat),
      (w.drew.alloc (.cells ((xs ++ news).toArray ++ Builtin.zeroCells z.cells (grownCap w (n + m) old e - (n + m))) e)).ownsRow 0 e i.size
        (.slice (some ⟨w.heap.size, 0, none⟩) (n + m) (grownCap w (n + m) old e)) (n + m) (xs ++ news) ∧
      w.grownBy (w.drew.alloc (.cells ((xs ++ news).toArray ++ Builtin.zeroCells z.cells (grownCap w (n + m) old e - (n + m))) e)) row := by
    intro old ho row
    have hge := grownCap_ge w (n + m) old e
    have hcm : grownCap w (n + m) old e ≤ maxLen := grownCap_le_maxLen w (n + m) old e h63
    refine ⟨⟨hlen, .inr ⟨w.heap.size, _, _, rfl, Nat.zero_le _, heap_alloc_new w.drew _, hge, hcm, ?_, ?_⟩⟩, ⟨rfl, rfl, rfl, by simp, fun k hk _ => Below.heap_alloc w.drew _ k hk⟩⟩
    · simp only [Array.size_append, List.size_toArray, size_zeroCells, hzs, hlen, ← Nat.add_mul]
      congr 1
      omega
    · simp only [Array.toList_append]
      rw [← hlen]
      exact List.take_left
  rcases hown.2 with ⟨rfl, rfl⟩ | ⟨g, cap, cur, rfl, hbg, hg, hnc, hcm, hcs, htake⟩
  · have hx : xs = [] := List.eq_nil_of_length_eq_zero (by simpa using hown.1)
    subst hx
    by_cases hm : m = 0
    · subst hm
      have hn : news = [] := List.eq_nil_of_length_eq_zero (by simpa using hs.newsLen)
      subst hn
      refine ⟨.slice none 0 0, w, ?_, World.ownsRow_nil w 0 e i.size, ⟨rfl, rfl, rfl, Nat.le_refl _, fun _ _ _ => rfl⟩, Or.inl rfl⟩
      have hc := hs.cells
      rcases hs.kind with ⟨e', hk⟩ | hk <;> simp [Builtin.append_, run_underlying ht, run_underlying hk, sizeOf, typeInfo, hi, hs.len, hc]
    · have hr := run_append_grow_src (P := P) w t tx ty e i z ht hi hz none 0 0 [] (run_firstCells_none w.drew i.size 0 0 0) x m news hs (by omega) (by omega) (by
        have hb := hbytes
        simp only [Nat.zero_add] at hb ⊢
        have : Builtin.nextslicecap m 0 = m := by unfold Builtin.nextslicecap; rw [if_pos (by omega)]
        rw [this]; omega)
      have hgr := grown 0 (by omega) (Value.ownBlock (.slice none 0 0))
      exact ⟨_, _, hr, hgr.1, hgr.2, Or.inr rfl⟩
  · by_cases hroom : n + m ≤ cap
    · have hfit : 0 + n * i.size + news.length ≤ cur.size := by rw [hs.newsLen, hcs, Nat.zero_add, ← Nat.add_mul]; exact Nat.mul_le_mul_right _ hroom
      have hst := run_storeCells_at (P := P) g (n * i.size) e news 0 cur w hg (by omega) hs.one
      simp only [Nat.add_zero] at hst
      have hr : (Builtin.append_ #[t, tx] ty #[.slice (some ⟨g, 0, none⟩) n cap, x]).run P w = .ok (.slice (some ⟨g, 0, none⟩) (n + m) cap) (w.setRow g (cur.toList.take (n * i.size) ++ news ++ cur.toList.drop (n * i.size + news.length)).toArray) := by
        have hc := hs.cells
        have hadd : ((⟨g, 0, none⟩ : Addr).add (n * i.size)) = ⟨g, n * i.size, none⟩ := by rw [add_addr]; simp
        rcases hs.kind with ⟨e', hk⟩ | hk <;> simp [Builtin.append_, run_underlying ht, run_underlying hk, sizeOf, typeInfo, hi, hs.len, hroom, hc, hadd] <;> simpa using congrArg (fun r => r.andThen fun _ w' => Result.ok (Value.slice (some ⟨g, 0, none⟩) (n + m) cap) w') hst
      refine ⟨_, _, hr, ⟨hlen, .inr ⟨g, cap, _, rfl, hbg, setRow_heap w g cur _ e _ hg, hroom, hcm, ?_, ?_⟩⟩, ⟨rfl, rfl, rfl, by simp, fun k _ hk => setRow_other w g k _ (fun e => hk (by simp [Value.ownBlock, e]))⟩, Or.inl rfl⟩
      · simp only [List.size_toArray, List.length_append, List.length_take, List.length_drop, Array.length_toList]
        omega
      · rw [htake, ← hlen]
        exact List.take_left
    · have holds : ∀ j u, xs[j]? = some u → w.cell? ((⟨g, 0, none⟩ : Addr).add j) = some u := hown.cells (g := g) rfl
      have hr := run_append_grow_src (P := P) w t tx ty e i z ht hi hz (some ⟨g, 0, none⟩) n cap xs (run_firstCells_some w.drew i.size n _ n cap xs hown.1 (by simpa using holds)) x m news hs (by omega) (by omega) (growslice_fits (by omega) hbytes)
      have hgr := grown cap (by omega) (Value.ownBlock (.slice (some ⟨g, 0, none⟩) n cap))
      exact ⟨_, _, hr, hgr.1, hgr.2, Or.inr rfl⟩
end
theorem repR_of {ok : Nat → Prop} {w : World} : ∀ {xs : List (List AV)} {vs : List Value} (us : List Value), RepL ok w xs.flatten vs → RepR ok w xs (vs ++ us)
  | [], vs, us, h => by simp [RepR]
  | x :: xs, vs, us, h => by
    rw [List.flatten_cons] at h
    have hl := h.length
    simp only [List.length_append] at hl
    simp only [RepR]
    have h1 := h.take x.length
    have h2 := h.drop x.length
    rw [List.take_append_of_le_length (Nat.le_refl _), List.take_of_length_le (Nat.le_refl _)] at h1
    rw [List.drop_append_of_le_length (Nat.le_refl _), List.drop_of_length_le (Nat.le_refl _), List.nil_append] at h2
    refine ⟨?_, ?_⟩
    · have := h1.toP (vs.drop x.length ++ us)
      rwa [← List.append_assoc, List.take_append_drop] at this
    · rw [List.drop_append_of_le_length (by omega)]
      exact repR_of us h2
def orow {α : Type} (ad : Option Addr) (cap : Nat) (e : TypeId) (sz : Nat) (f : α → List AV) (l : List α) : It where
  foot := fun k => Value.ownBlock (.slice ad l.length cap) = some k
  P := fun ok w => (∀ x, (f x).length = sz) ∧ ∃ vals, w.ownsRow 0 e sz (.slice ad l.length cap) l.length vals ∧ RepL ok w (l.map f).flatten vals
  stable := by
    intro ok ok' w w' hg hs hf hb ⟨hsz, vals, h1, h2⟩
    refine ⟨hsz, vals, ⟨h1.1, ?_⟩, RepL.go hg _ _ h2⟩
    rcases h1.2 with h | ⟨g, cp, cur, hv, hbg, hh, hr⟩
    · exact .inl h
    · refine .inr ⟨g, cp, cur, hv, hbg, ?_, hr⟩
      rw [hb g (by rw [hv]; rfl)]
      exact hh
section
variable {P : Program} {M : Nat → Prop} {w0 : Bs} {w : World} {a : Act} {n : Nat} {I : List It} {σ : St} {c : Ch} {dst : Option Tmp} {ty : TypeId} {pos : String} {aft : Array Edge} {g : Option (Nat × Bool)} {x y : Operand} {u : AV} {ops : Array Oper} {Q : Exit → Act → World → Prop} {rest : List Oper} {d j : Nat}
  {α : Type} {f : α → List AV} {l : List α} {ad : Option Addr} {cap : Nat} {e : TypeId} {sz : Nat}
theorem S.nilRow (hk : S M w0 a w n I σ Df) (e : TypeId) (sz : Nat) (f : α → List AV) (hsz : ∀ x, (f x).length = sz) : S M w0 a w n (orow none 0 e sz f ([] : List α) :: I) σ Df :=
  hk.push (New.refl w) ⟨hsz, [], World.ownsRow_nil w 0 e sz, by simpa using repL_nil⟩ fun k hk' => by
    have h : Value.ownBlock (.slice none 0 0) = some k := hk'
    simp [Value.ownBlock] at h
theorem orow_rep {ok : Nat → Prop} (h : (orow ad cap e sz f l).P ok w) (hok : ∀ k, (orow ad cap e sz f l).foot k → ok k) : Rep ok w (.row (l.map f)) (.slice ad l.length cap) := by
  obtain ⟨hsz, vals, h1, h2⟩ := h
  simp only [Rep]
  refine ⟨ad, cap, by simp, ?_, ?_⟩
  · rcases h1.2 with ⟨hv, hn⟩ | ⟨g, cp, cur, hv, _, _, hle, _⟩
    · rw [List.length_map, hn]; omega
    · injection hv with _ _ h3; subst h3; simpa using hle
  · rcases h1.2 with ⟨hv, hn⟩ | ⟨g, cp, cur, hv, _, hh, hle, _, hcs, ht⟩
    · left
      have : l = [] := List.eq_nil_of_length_eq_zero hn
      subst this; rfl
    · right
      injection hv with h3 h4 h5
      subst h3
      refine ⟨g, 0, cur, e, (0, 0), rfl, hok g rfl, hh, ?_⟩
      have := repR_of (cur.toList.drop (l.length * sz)) h2
      rw [← ht, List.take_append_drop] at this
      simpa using this
theorem S.freeze (hk : S M w0 a w n I σ Df) (hj : I[j]? = some (orow ad cap e sz f l)) : ∀ v, Rep (okM M (I.eraseIdx j)) w (.lit (.slice ad l.length cap)) v → Rep (okM M (I.eraseIdx j)) w (.row (l.map f)) v := by
  intro v hv
  simp only [Rep] at hv
  subst hv
  have h := (orow ad cap e sz f l).stable (Goes.drop w I j (M := M)) (Nat.le_refl _) (fun k hk' => (hk.own.lt hj hk').2) (fun _ _ => rfl) (hk.own.get hj)
  refine orow_rep h fun k hk' => ⟨?_, ?_⟩
  · intro hM
    have h1 := hk.own.bd k hM
    have h2 := (hk.own.lt hj hk').1
    exact h2.elim (by omega) (hk.own.apart k hM)
  · intro it hit hf
    obtain ⟨i, hi⟩ := List.mem_iff_getElem?.1 hit
    rw [List.getElem?_eraseIdx] at hi
    split at hi
    · exact hk.own.dis i j it _ (by omega) hi hj k hf hk'
    · exact hk.own.dis (i + 1) j it _ (by omega) hi hj k hf hk'
theorem S.freezeSlot {t : Nat} (hk : S M w0 a w n I σ Df) (hj : I[j]? = some (orow ad cap e sz f l)) (hl : look σ t = some ([], .lit (.slice ad l.length cap))) : S M w0 a w n (I.eraseIdx j) ((t, [], .row (l.map f)) :: σ) Df :=
  (hk.drop j).as hl (hk.freeze hj)
theorem row_src {ok : Nat → Prop} {v : Value} {t e' : TypeId} (h : Rep ok w (.row (l.map f)) v) (hsz : ∀ x, (f x).length = sz) (h1 : ∀ x, (f x).all oneA = true) (hu : P.underlying t = some (.slice e')) :
    ∃ news, Src P sz t v l.length news w ∧ RepL ok w (l.map f).flatten news := by
  simp only [Rep] at h
  obtain ⟨a', cp, hv, hle, hx⟩ := h
  rw [List.length_map] at hv hle
  by_cases hl : l = []
  · subst hl
    subst hv
    cases a' with
    | none => exact ⟨[], Src.ofNil w hu cp, by simpa using repL_nil⟩
    | some a'' => exact ⟨[], Src.ofSlice w hu a'' 0 cp [] (by simp) (by simp) (by simp), by simpa using repL_nil⟩
  · have hne : ¬ l.map f = [] := by simpa using hl
    obtain ⟨b, off, cs, e2, fr, rfl, hb, hh, hR⟩ := hx.resolve_left hne
    have hsz' : ∀ x ∈ l.map f, x.length = sz := by
      intro x hx
      obtain ⟨y, _, rfl⟩ := List.mem_map.1 hx
      exact hsz y
    have key : ∀ (xs : List (List AV)) (vs : List Value), (∀ x ∈ xs, x.length = sz) → RepR ok w xs vs → xs.length * sz ≤ vs.length ∧ RepL ok w xs.flatten (vs.take (xs.length * sz)) := by
      intro xs
      induction xs with
      | nil => intro vs _ _; simp [RepL]
      | cons x xs ih =>
        intro vs hs hR
        simp only [RepR] at hR
        have hx := hs x List.mem_cons_self
        obtain ⟨h2, h3⟩ := hR.1.toL
        obtain ⟨h4, h5⟩ := ih _ (fun y hy => hs y (List.mem_cons_of_mem _ hy)) hR.2
        rw [List.length_drop] at h4
        have e0 : (xs.length + 1) * sz = sz + xs.length * sz := by rw [Nat.succ_mul]; omega
        refine ⟨by rw [List.length_cons, e0]; omega, ?_⟩
        rw [List.flatten_cons, List.length_cons, e0]
        have e1 : vs.take (sz + xs.length * sz) = vs.take x.length ++ (vs.drop x.length).take (xs.length * sz) := by
          rw [hx, List.take_add]
        rw [e1]
        exact h2.append h5
    obtain ⟨hlen, hL⟩ := key _ _ hsz' hR
    rw [List.length_map] at hlen hL
    have hone : ((l.map f).flatten).all oneA = true := by
      rw [List.all_eq_true]
      intro y hy
      obtain ⟨z, hz, hyz⟩ := List.mem_flatten.1 hy
      obtain ⟨q, _, rfl⟩ := List.mem_map.1 hz
      have := h1 q
      rw [List.all_eq_true] at this
      exact this y hyz
    refine ⟨(cs.toList.drop off).take (l.length * sz), ?_, hL⟩
    subst hv
    refine Src.ofSlice w hu ⟨b, off, none⟩ l.length cp _ (by rw [List.length_take]; omega) ?_ (repL_one hL hone)
    intro k v' hk'
    rw [add_addr, cell_of_row w b (off + k) cs e2 fr hh]
    rw [List.getElem?_take] at hk'
    split at hk'
    · rw [List.getElem?_drop] at hk'; simpa using hk'
    · cases hk'
theorem l_append {t tx : TypeId} {l2 l3 : List α} {I' : Option Addr → Nat → List It} {by_ : Nat} (hk : S M w0 a w n I σ Df) (hj : I[j]? = some (orow ad cap e sz f l)) (hn : Nat.blt d n = true) (hf : chFree σ d = true)
    (hx : opvc σ [] x = some (.lit (.slice ad l.length cap))) (hy : ∃ news, Src P sz tx (a.eval y) l2.length news w ∧ RepL (okM M I) w (l2.map f).flatten news)
    (ht : P.underlying t = some (.slice e)) (hi : (P.info? e).map (fun i => (i.zero.map (fun z => z.cells.size), i.size, i.bytes)) = some (some sz, sz, by_)) (hb : (l.length + l2.length) * by_ ≤ 140737488355328 ∧ l.length + l2.length ≤ 140737488355328)
    (hl3 : l ++ l2 = l3) (hI : ∀ ad' cap', I.set j (orow ad' cap' e sz f l3) = I' ad' cap')
    (h : ∀ ad' cap' a' w', S M w0 a' w' n (I' ad' cap') ((d, [], .lit (.slice ad' (l3.length) cap')) :: σ) Df → wpList P ops Q rest a' w') :
    wpList P ops Q (⟨some d, .call { callee := .builtin .append, args := #[x, y], argTypes := #[t, tx] }, ty, pos, aft, none⟩ :: rest) a w := by
  obtain ⟨hsz, vals, hown, hL⟩ := hk.own.get hj
  obtain ⟨news, hsrc, hnews⟩ := hy
  obtain ⟨i, hinf, hi'⟩ := Option.map_eq_some_iff.1 hi
  simp only [Prod.mk.injEq] at hi'
  obtain ⟨hz0, his, hib⟩ := hi'
  obtain ⟨z, hz, hzs⟩ := Option.map_eq_some_iff.1 hz0
  subst his; subst hib; subst hl3
  obtain ⟨v', w', hr, hown', hgrow, hat⟩ := run_append_src (P := P) w t tx ty e i z ht hinf hz hzs _ _ vals hown _ _ news hsrc (by unfold maxLen; omega) hb.1
  obtain ⟨ad', cap', rfl⟩ : ∃ ad' cap', v' = .slice ad' (l ++ l2).length cap' := by
    rw [List.length_append]
    rcases hown'.2 with ⟨hv, h0⟩ | ⟨g, cp, cur, hv, _⟩
    · exact ⟨none, 0, by rw [hv, h0]⟩
    · exact ⟨_, _, hv⟩
  have hrun : (execOp a.eval ⟨some d, .call { callee := .builtin .append, args := #[x, y], argTypes := #[t, tx] }, ty, pos, aft, none⟩).run P w = .ok (.value (.slice ad' (l ++ l2).length cap')) w' := by
    simp only [execOp, resolve, invoke, builtin, Sem.run_bind, Sem.run_pure, Result.andThen_ok, List.map_toArray, List.map_cons, List.map_nil, hk.kn.val (holds_nil a) hx, hr]
  have hfoot : ∀ k, (orow ad' cap' e i.size f (l ++ l2)).foot k → ((orow ad cap e i.size f l).foot k ∨ w.heap.size ≤ k) ∧ k < w'.heap.size := by
    intro k hk'
    have hk0 : Value.ownBlock (.slice ad' (l ++ l2).length cap') = some k := hk'
    have hlt := (hown'.lt k hk0).2
    rcases hat with h | h
    · exact ⟨.inl (by rw [h] at hk0; exact hk0), hlt⟩
    · rw [h] at hk0
      injection hk0 with hk0
      exact ⟨.inr (by omega), hlt⟩
  have hfr : Frm (orow ad cap e i.size f l).foot w w' := Frm.of_grown hgrow
  have hgo : Goes (okM M I) (okM M (I.set j (orow ad' cap' e i.size f (l ++ l2)))) w w' := Goes.upd hk.own hj hfr hfoot
  have hk2 : S M w0 a w' n (I.set j (orow ad' cap' e i.size f (l ++ l2))) σ Df := by
    refine hk.upd hj hfr ⟨hsz, vals ++ news, by rw [List.length_append]; rw [List.length_append] at hown'; exact hown', ?_⟩ hfoot
    rw [List.map_append, List.flatten_append]
    exact (RepL.go hgo _ _ hL).append (RepL.go hgo _ _ hnews)
  rw [hI] at hk2
  exact leff hk rfl rfl hn hf hrun hk2 (rep_lit rfl) fun a' hk3 => h ad' cap' a' w' hk3
def partsOk (sz : Nat) : Nat → List (Nat × AV) → Bool
  | _, [] => true
  | k, (i, x) :: r => Nat.beq i k && Nat.beq (cellsA x).length sz && wholeA x && partsOk sz (k + 1) r
theorem fill_parts {ok : Nat → Prop} {sz N : Nat} : ∀ {parts : List (Nat × AV)} {vals : List (Nat × Value)} {k : Nat} {cells : Array Value}, RepParts ok w parts vals → partsOk sz k parts = true → (k + parts.length) * sz = N → cells.size = N →
    ∃ arr, Instr.fill (fun i => some (i * sz, sz)) cells vals = some arr ∧ arr.size = N ∧ ∃ us, arr.toList = cells.toList.take (k * sz) ++ us ∧ RepL ok w (parts.map fun p => cellsA p.2).flatten us ∧ ∀ u ∈ us, u.oneCell' = true
  | [], _, k, cells, hp, hb, hN, hc => by
    cases hp
    refine ⟨cells, rfl, hc, [], ?_, by simpa using repL_nil, by simp⟩
    rw [List.append_nil, List.take_of_length_le]
    simp only [List.length_nil, Nat.add_zero] at hN
    simp [hc, hN]
  | (i, x) :: r, _, k, cells, hp, hb, hN, hc => by
    cases hp with
    | cons hx ht =>
    rename_i v vs
    simp only [partsOk, Bool.and_eq_true] at hb
    obtain ⟨⟨⟨h1, h2⟩, h3⟩, h4⟩ := hb
    have h1 : i = k := Nat.eq_of_beq_eq_true h1
    have h2 : (cellsA x).length = sz := Nat.eq_of_beq_eq_true h2
    subst h1
    obtain ⟨hL, h1c⟩ := rep_cells hx h3
    have hvl : v.cells.size = sz := by rw [← h2, ← hL.length]; simp
    have hle : i * sz + sz ≤ cells.size := by
      rw [hc, ← hN, List.length_cons, ← Nat.succ_mul]
      exact Nat.mul_le_mul_right _ (by omega)
    have hput : ((v.cells.zipIdx.foldl (fun cs (p : Value × Nat) => cs.setIfInBounds (i * sz + p.2) p.1) cells)).toList = cells.toList.take (i * sz) ++ v.cells.toList ++ cells.toList.drop (i * sz + v.cells.toList.length) := by
      have h0 := foldl_put v.cells.toList 0 (i * sz) cells (by simp; omega)
      rw [← Array.foldl_toList, Array.toList_zipIdx]
      simpa using h0
    have hsize : (v.cells.zipIdx.foldl (fun cs (p : Value × Nat) => cs.setIfInBounds (i * sz + p.2) p.1) cells).size = N := by
      rw [← Array.length_toList, hput]
      simp
      omega
    obtain ⟨arr, ha, has, us, hus, hR, hone⟩ := fill_parts (sz := sz) (N := N) (k := i + 1) ht h4 (by rw [← hN, List.length_cons]; congr 1; omega) hsize
    refine ⟨arr, ?_, has, v.cells.toList ++ us, ?_, ?_, ?_⟩
    · rw [Instr.fill]
      simp only
      rw [if_neg]
      · exact ha
      · simp [hvl]; omega
    · rw [hus, hput, ← List.append_assoc]
      congr 1
      have hlen : (List.take (i * sz) cells.toList ++ v.cells.toList).length = (i + 1) * sz := by
        rw [List.length_append, List.length_take, Array.length_toList, Array.length_toList, hvl, Nat.succ_mul]; omega
      rw [← hlen, List.take_left]
    · rw [List.map_cons, List.flatten_cons]
      exact hL.append hR
    · intro u hu
      rcases List.mem_append.1 hu with hu | hu
      · exact h1c u hu
      · exact hone u hu
theorem l_buildSlice {t : TypeId} {ps : List (Nat × Operand)} {xs : List (Nat × AV)} {N : Nat} (hk : S M w0 a w n I σ Df) (hn : Nat.blt d n = true) (hf : chFree σ d = true) (hx : partsA σ [] ps = some xs) (ht : P.underlying t = some (.slice e))
    (hi : (P.info? e).map (fun i => (i.zero.isSome, i.size)) = some (true, sz)) (hb : partsOk sz 0 xs = true) (hN : Nat.beq xs.length N = true) (hsm : (Nat.blt 0 (N * sz) && Nat.ble (N * sz) 16777216 && Nat.ble N 16777216) = true)
    (hsz : ∀ x, (f x).length = sz) (hl : (xs.map fun p => cellsA p.2) = l.map f)
    (h : ∀ b a' w', S M w0 a' w' n (orow (some ⟨b, 0, none⟩) N e sz f l :: I) ((d, [], .lit (.slice (some ⟨b, 0, none⟩) l.length N)) :: σ) Df → wpList P ops Q rest a' w') :
    wpList P ops Q (⟨some d, .buildSlice t N ps.toArray, ty, pos, aft, none⟩ :: rest) a w := by
  have hlN : l.length = N := by
    have := congrArg List.length hl
    simp only [List.length_map] at this
    rw [← this]
    exact Nat.eq_of_beq_eq_true hN
  obtain ⟨i, hinf, hi'⟩ := Option.map_eq_some_iff.1 hi
  simp only [Prod.mk.injEq] at hi'
  obtain ⟨hz0, his⟩ := hi'
  obtain ⟨z, hz⟩ := Option.isSome_iff_exists.1 hz0
  subst his
  simp only [Bool.and_eq_true] at hsm
  obtain ⟨⟨hpos, hsm⟩, hsm2⟩ := hsm
  have hpos : 0 < N * i.size := Nat.le_of_ble_eq_true hpos
  have hsm : N * i.size ≤ 16777216 := Nat.le_of_ble_eq_true hsm
  have hsm2 : N ≤ 16777216 := Nat.le_of_ble_eq_true hsm2
  have hxl : xs.length = N := Nat.eq_of_beq_eq_true hN
  obtain ⟨arr, harr, hars, us, hus, hR, hone⟩ := fill_parts (w := w) (sz := i.size) (N := N * i.size) (k := 0) (cells := (Array.range (N * i.size)).map (z.cells[· % z.cells.size]!)) (rep_parts hk.kn (holds_nil a) hx) hb (by rw [hxl, Nat.zero_add]) (by simp)
  simp only [Nat.zero_mul, List.take_zero, List.nil_append] at hus
  have hr : (execOp a.eval ⟨some d, .buildSlice t N ps.toArray, ty, pos, aft, none⟩).run P w = .ok (.value (.slice (some ⟨w.heap.size, 0, none⟩) l.length N)) (w.alloc (.cells arr e)) := by
    simp only [execOp, Sem.run_bind]
    rw [run_buildSlice w t e N _ arr i z ht hinf hz (by omega) (by omega) (by simpa using harr)]
    simp [hlN]
  have hlen : us.length = l.length * i.size := by
    rw [← hus, Array.length_toList, hars, hlN]
  refine leff hk rfl rfl hn hf hr ?_ (rep_lit rfl) (fun a' hk' => h w.heap.size a' _ hk')
  refine hk.push (New.alloc w _) ⟨hsz, us, ⟨hlen, .inr ⟨w.heap.size, N, arr, rfl, Nat.zero_le _, heap_alloc_new w _, by omega, by unfold maxLen; omega, hars, by rw [hus, ← hlen, List.take_length]⟩⟩, ?_⟩ ?_
  · rw [← hl]
    exact RepL.go (Goes.push (New.alloc w _) (fun k hk' => by
      have hk0 : Value.ownBlock (.slice (some ⟨w.heap.size, 0, none⟩) l.length N) = some k := hk'
      simp only [Value.ownBlock, Option.some.injEq] at hk0
      subst hk0; simp)) _ _ hR
  · intro k hk'
    have hk0 : Value.ownBlock (.slice (some ⟨w.heap.size, 0, none⟩) l.length N) = some k := hk'
    simp only [Value.ownBlock, Option.some.injEq] at hk0
    subst hk0; simp
theorem l_buildSlice0 {t : TypeId} (hk : S M w0 a w n I σ Df) (hn : Nat.blt d n = true) (hf : chFree σ d = true) (ht : P.underlying t = some (.slice e)) (hi : (P.info? e).map (fun i => i.size) = some sz) (hsz : ∀ x : α, (f x).length = sz)
    (h : ∀ b a' w', S M w0 a' w' n (orow (some ⟨b, 0, none⟩) 0 e sz f ([] : List α) :: I) ((d, [], .lit (.slice (some ⟨b, 0, none⟩) ([] : List α).length 0)) :: σ) Df → wpList P ops Q rest a' w') :
    wpList P ops Q (⟨some d, .buildSlice t 0 #[], ty, pos, aft, none⟩ :: rest) a w := by
  obtain ⟨i, hinf, his⟩ := Option.map_eq_some_iff.1 hi
  subst his
  have hr : (execOp a.eval ⟨some d, .buildSlice t 0 #[], ty, pos, aft, none⟩).run P w = .ok (.value (.slice (some ⟨w.heap.size, 0, none⟩) 0 0)) (w.alloc (.cells #[] e)) := by
    simp [execOp, Instr.buildSlice, run_underlying ht, sizeOf, typeInfo, hinf, Instr.fill, newRow]
    congr 2
    apply Array.ext'
    simp
  refine leff hk rfl rfl hn hf hr ?_ (rep_lit rfl) (fun a' hk' => h w.heap.size a' _ hk')
  refine hk.push (New.alloc w _) ⟨hsz, [], ⟨by simp, .inr ⟨w.heap.size, 0, #[], rfl, Nat.zero_le _, heap_alloc_new w _, by simp, by unfold maxLen; omega, by simp, by simp⟩⟩, by simpa using repL_nil⟩ ?_
  intro k hk'
  have hk0 : Value.ownBlock (.slice (some ⟨w.heap.size, 0, none⟩) 0 0) = some k := hk'
  simp only [Value.ownBlock, Option.some.injEq] at hk0
  subst hk0; simp
theorem conv_bytes {ok : Nat → Prop} {l : List Int} {v : Value} {s t e : TypeId} (h : Rep ok w (.row (l.map fun x => [.lit (.int .u8 x)])) v) (hs : P.underlying s = some (.slice e)) (he : P.underlying e = some (.int .u8)) (ht : P.underlying t = some .string) :
    (convert s t v).run P w = .ok (.string (B (toB l))) w := by
  simp only [Rep] at h
  obtain ⟨a', cp, hv, hle, hx⟩ := h
  rw [List.length_map] at hv hle
  have e1 : (strOfNums l) = B (toB l) := by
    apply ByteArray.ext
    apply Array.ext'
    rw [strOfNums_data]; simp [B, toB]
  have hcells : ∀ b off cs el fr, w.heap[b]? = some (.cells cs el fr) → RepR ok w (l.map fun x => [.lit (.int .u8 x)]) (cs.toList.drop off) → ∀ i, i < l.length → w.cell? ⟨b, off + i, none⟩ = some (.int .u8 (l.getD i 0)) := by
    intro b off cs el fr hh hR i hi
    have hg : (l.map fun x => [AV.lit (.int .u8 x)])[i]? = some [.lit (.int .u8 (l.getD i 0))] := by simp [hi, List.getD_eq_getElem?_getD]
    have h2 := RepR.at hR (sz := 1) (by intro x hx; obtain ⟨y, _, rfl⟩ := List.mem_map.1 hx; rfl) hg
    simp only [RepP] at h2
    obtain ⟨v', r, h3, h4, _⟩ := h2
    simp only [Rep] at h4
    subst h4
    rw [cell_of_row w b (off + i) cs el fr hh]
    have : (cs.toList.drop off).drop (i * 1) = .int .u8 (l.getD i 0) :: r := h3
    rw [List.drop_drop, Nat.mul_one] at this
    have h5 : (cs.toList.drop (off + i))[0]? = some (.int .u8 (l.getD i 0)) := by rw [this]; rfl
    simpa using h5
  by_cases hl : l = []
  · subst hl
    subst hv
    cases a' with
    | none => rw [run_convert_bytes_nil w s e hs he _ _ t ht]; rfl
    | some a'' =>
      obtain ⟨b, off, spot⟩ := a''
      rw [run_convert_bytes_string w s t e _ _ _ hs he ht]
      have h0 : (loadCells ⟨b, off, spot⟩ 0).run P w = .ok #[] w := by simp [loadCells, loadCellsFrom]
      have := run_bytesToString (P := P) w ⟨b, off, spot⟩ 0 cp [] (by simpa using h0)
      exact this
  · have hne : ¬ (l.map fun x => [AV.lit (.int .u8 x)]) = [] := by simpa using hl
    obtain ⟨b, off, cs, e2, fr, rfl, hb, hh, hR⟩ := hx.resolve_left hne
    subst hv
    rw [run_convert_bytes_arg w s e hs he b off l.length cp l rfl (hcells b off cs e2 fr hh hR) t ht, e1]
theorem f_toBown {s t : TypeId} {l : List Int} {ad : Option Addr} {cap : Nat} {f : Int → List AV} (hf : f = fun x => [.lit (.int .u8 x)]) (hk : S M w0 a w n I σ Df) (hc : holds a c) (hj : I[j]? = some (orow ad cap e sz f l)) (hx : opvc σ c x = some (.lit (.slice ad l.length cap))) (hs : P.underlying s = some (.slice e)) (he : P.underlying e = some (.int .u8)) (ht : P.underlying t = some .string) :
    Fun P (okM M I) ⟨dst, .convert s t x, ty, pos, aft, g⟩ a w (.lit (.string (B (toB l)))) := by
  subst hf
  have hr : Rep (fun _ => True) w (.row (l.map fun x => [.lit (.int .u8 x)])) (.slice ad l.length cap) := by
    refine orow_rep ((orow ad cap e sz (fun x => [.lit (.int .u8 x)]) l).stable (ok := okM M I) (ok' := fun _ => True) (w := w) (fun b _ _ => ⟨trivial, rfl⟩) (Nat.le_refl _) (fun k hk' => (hk.own.lt hj hk').2) (fun _ _ => rfl) (hk.own.get hj)) (fun _ _ => trivial)
  exact .inl ⟨_, w, by simp only [execOp, hk.kn.val hc hx, Sem.run_bind, conv_bytes hr hs he ht, Result.andThen_ok, Sem.run_pure], New.refl w, rep_lit rfl⟩
theorem S.dropI {I' : List It} (hk : S M w0 a w n I σ Df) (j : Nat) (h : I.eraseIdx j = I') : S M w0 a w n I' σ Df := h ▸ hk.drop j
theorem S.freezeI {t : Nat} {I' : List It} (hk : S M w0 a w n I σ Df) (hj : I[j]? = some (orow ad cap e sz f l)) (hl : look σ t = some ([], .lit (.slice ad l.length cap))) (h : I.eraseIdx j = I') : S M w0 a w n I' ((t, [], .row (l.map f)) :: σ) Df := h ▸ hk.freezeSlot hj hl
theorem imm_src {R : List α → List (List AV)} {t e' : TypeId} (hk : S M w0 a w n I σ Df) (hR : ∀ l, R l = l.map f) (hy : opvc σ [] y = some (.row (R l))) (hsz : ∀ x, (f x).length = sz) (h1 : ∀ x, (f x).all oneA = true) (hu : P.underlying t = some (.slice e')) :
    ∃ news, Src P sz t (a.eval y) l.length news w ∧ RepL (okM M I) w (l.map f).flatten news := by
  rw [hR] at hy
  exact row_src (hk.kn.rep (holds_nil a) hy) hsz h1 hu
theorem own_src {t e' : TypeId} (hk : S M w0 a w n I σ Df) (hj : I[j]? = some (orow ad cap e sz f l)) (hy : opvc σ [] y = some (.lit (.slice ad l.length cap))) (h1 : ∀ x, (f x).all oneA = true) (hu : P.underlying t = some (.slice e')) :
    ∃ news, Src P sz t (a.eval y) l.length news w ∧ RepL (okM M I) w (l.map f).flatten news := by
  obtain ⟨hsz, vals, hown, hL⟩ := hk.own.get hj
  rw [hk.kn.val (holds_nil a) hy]
  have hone : ((l.map f).flatten).all oneA = true := by
    rw [List.all_eq_true]
    intro y hy
    obtain ⟨z, hz, hyz⟩ := List.mem_flatten.1 hy
    obtain ⟨q, _, rfl⟩ := List.mem_map.1 hz
    have := h1 q
    rw [List.all_eq_true] at this
    exact this y hyz
  rcases hown.2 with ⟨hv, hn⟩ | ⟨g, cp, cur, hv, _⟩
  · have hl0 : l = [] := List.eq_nil_of_length_eq_zero hn
    subst hl0
    have hv' : vals = [] := List.eq_nil_of_length_eq_zero (by simpa using hown.1)
    subst hv'
    rw [hv]
    exact ⟨[], Src.ofNil w hu 0, by simpa using repL_nil⟩
  · refine ⟨vals, ?_, hL⟩
    have hc := hown.cells (g := g) (by rw [hv]; rfl)
    injection hv with h3 h4 h5
    subst h3
    exact Src.ofSlice w hu ⟨g, 0, none⟩ l.length cap vals hown.1 hc (repL_one hL hone)
end
end Go.Proofs.YtfbkgaandmebaaaGreat.FW
namespace Go.Proofs.YtfbkgaandmebaaaGreat.FW
variable {Df : List Deferred}
open Go.RowKit
set_option linter.unusedVariables false
theorem okM_perm {M : Nat → Prop} {I I' : List It} (h : ∀ x, x ∈ I ↔ x ∈ I') : okM M I = okM M I' := by
  funext k
  unfold okM
  exact propext ⟨fun ⟨a, b⟩ => ⟨a, fun it hi => b it ((h it).2 hi)⟩, fun ⟨a, b⟩ => ⟨a, fun it hi => b it ((h it).1 hi)⟩⟩
section
variable {P : Program} {M : Nat → Prop} {w0 : Bs} {w w' : World} {a : Act} {n : Nat} {I I' : List It} {σ : St} {it : It} {j : Nat}
theorem Own.perm (h : Own M w0 w I) (f : Nat → Nat) (hf : ∀ i it, I'[i]? = some it → I[f i]? = some it) (hinj : ∀ i j, i < I'.length → j < I'.length → f i = f j → i = j) (hm : ∀ x, x ∈ I ↔ x ∈ I') : Own M w0 w I' := by
  refine ⟨h.frm, h.bd, fun i it hi => ?_, fun i j x y hij hx hy => ?_, h.apart⟩
  · rw [← okM_perm hm]
    exact h.ok (f i) it (hf i it hi)
  · refine h.dis (f i) (f j) x y (fun e => hij (hinj i j (List.getElem?_eq_some_iff.1 hx).1 (List.getElem?_eq_some_iff.1 hy).1 e)) (hf i x hx) (hf j y hy)
def frontF (j i : Nat) : Nat := if i = 0 then j else if i ≤ j then i - 1 else i
theorem Own.front (h : Own M w0 w I) (hj : I[j]? = some it) : Own M w0 w (it :: I.eraseIdx j) := by
  have hlt : j < I.length := (List.getElem?_eq_some_iff.1 hj).1
  have hm : ∀ x, x ∈ I ↔ x ∈ it :: I.eraseIdx j := by
    intro x
    constructor
    · intro hx
      obtain ⟨i, hi⟩ := List.mem_iff_getElem?.1 hx
      by_cases hij : i = j
      · subst hij
        rw [hj] at hi; injection hi with hi; subst hi
        exact List.mem_cons_self
      · refine List.mem_cons_of_mem _ (List.mem_iff_getElem?.2 ?_)
        by_cases hlt : i < j
        · exact ⟨i, by rw [List.getElem?_eraseIdx, if_pos hlt]; exact hi⟩
        · refine ⟨i - 1, ?_⟩
          rw [List.getElem?_eraseIdx, if_neg (by omega), show i - 1 + 1 = i from by omega]
          exact hi
    · intro hx
      rcases List.mem_cons.1 hx with rfl | hx
      · exact List.mem_of_getElem? hj
      · exact List.mem_of_mem_eraseIdx hx
  refine h.perm (frontF j) ?_ ?_ hm
  · intro i x hi
    unfold frontF
    cases i with
    | zero => rw [if_pos rfl]; simp only [List.getElem?_cons_zero, Option.some.injEq] at hi; rw [← hi]; exact hj
    | succ i =>
      rw [if_neg (by omega)]
      rw [List.getElem?_cons_succ, List.getElem?_eraseIdx] at hi
      by_cases hij : i < j
      · rw [if_pos hij] at hi
        rw [if_pos (by omega)]; exact hi
      · rw [if_neg hij] at hi
        rw [if_neg (by omega)]; exact hi
  · intro p q hp hq
    unfold frontF
    split <;> split <;> (try split) <;> (try split) <;> omega
theorem S.front (h : S M w0 a w n I σ Df) (hj : I[j]? = some it) : S M w0 a w n (it :: I.eraseIdx j) σ Df := by
  have ho := h.own.front hj
  refine ⟨ho, ?_⟩
  have hm : okM M (it :: I.eraseIdx j) = okM M I := by
    refine (okM_perm fun x => ?_).symm
    constructor
    · intro hx
      obtain ⟨i, hi⟩ := List.mem_iff_getElem?.1 hx
      by_cases hij : i = j
      · subst hij
        rw [hj] at hi; injection hi with hi; subst hi
        exact List.mem_cons_self
      · refine List.mem_cons_of_mem _ (List.mem_iff_getElem?.2 ?_)
        by_cases hlt : i < j
        · exact ⟨i, by rw [List.getElem?_eraseIdx, if_pos hlt]; exact hi⟩
        · refine ⟨i - 1, ?_⟩
          rw [List.getElem?_eraseIdx, if_neg (by omega), show i - 1 + 1 = i from by omega]
          exact hi
    · intro hx
      rcases List.mem_cons.1 hx with rfl | hx
      · exact List.mem_of_getElem? hj
      · exact List.mem_of_mem_eraseIdx hx
  rw [hm]; exact h.kn
def pick (I : List It) : List Nat → List It
  | [] => I
  | j :: js => match I[j]? with
    | some it => pick (it :: I.eraseIdx j) js
    | none => I
theorem S.pick (h : S M w0 a w n I σ Df) : ∀ {js : List Nat} {I' : List It}, pick I js = I' → S M w0 a w n I' σ Df := by
  intro js
  induction js generalizing I with
  | nil => intro I' e; subst e; exact h
  | cons j js ih =>
    intro I' e
    unfold FW.pick at e
    cases hj : I[j]? with
    | none => rw [hj] at e; subst e; exact h
    | some it => rw [hj] at e; exact ih (h.front hj) e
theorem Own.part {I1 I2 : List It} (h : Own M w0 w (I1 ++ I2)) : Own (fun k => M k ∨ footL I2 k) ⟨w, footL I1⟩ w I1 := by
  refine ⟨Frm.refl _ _, fun k hk => ?_, fun i it hi => ?_, fun i j x y hij hx hy => ?_, fun k hk hf => ?_⟩
  · rcases hk with hk | ⟨it, hi, hf⟩
    · exact Nat.lt_of_lt_of_le (h.bd k hk) h.frm.size
    · obtain ⟨p, hp⟩ := List.mem_iff_getElem?.1 (List.mem_append_right I1 hi)
      exact (h.lt hp hf).2
  · have hi' : (I1 ++ I2)[i]? = some it := by
      rw [List.getElem?_append_left (List.getElem?_eq_some_iff.1 hi).1]; exact hi
    obtain ⟨h1, h2⟩ := h.ok i it hi'
    refine ⟨?_, fun k hk => ⟨.inr ⟨it, List.mem_of_getElem? hi, hk⟩, (h2 k hk).2⟩⟩
    have e : okM M (I1 ++ I2) = okM (fun k => M k ∨ footL I2 k) I1 := by
      funext k
      unfold okM footL
      apply propext
      constructor
      · rintro ⟨a, b⟩
        exact ⟨fun hh => hh.elim a fun ⟨x, hx, hf⟩ => b x (List.mem_append_right _ hx) hf, fun x hx => b x (List.mem_append_left _ hx)⟩
      · rintro ⟨a, b⟩
        exact ⟨fun hh => a (.inl hh), fun x hx hf => (List.mem_append.1 hx).elim (fun hx => b x hx hf) fun hx => a (.inr ⟨x, hx, hf⟩)⟩
    rw [← e]; exact h1
  · refine h.dis i j x y hij ?_ ?_
    · rw [List.getElem?_append_left (List.getElem?_eq_some_iff.1 hx).1]; exact hx
    · rw [List.getElem?_append_left (List.getElem?_eq_some_iff.1 hy).1]; exact hy
  · obtain ⟨x, hx, hfx⟩ := hf
    obtain ⟨p, hp⟩ := List.mem_iff_getElem?.1 hx
    have hp' : (I1 ++ I2)[p]? = some x := by
      rw [List.getElem?_append_left (List.getElem?_eq_some_iff.1 hp).1]; exact hp
    rcases hk with hk | ⟨y, hy, hfy⟩
    · have := h.lt hp' hfx
      rcases this.1 with h1 | h1
      · have := h.bd k hk; omega
      · exact h.apart k hk h1
    · obtain ⟨q, hq⟩ := List.mem_iff_getElem?.1 hy
      have hq' : (I1 ++ I2)[I1.length + q]? = some y := by
        rw [List.getElem?_append_right (by omega), show I1.length + q - I1.length = q from by omega]; exact hq
      exact h.dis p (I1.length + q) x y (by have := (List.getElem?_eq_some_iff.1 hp).1; omega) hp' hq' k hfx hfy
theorem okM_part (M : Nat → Prop) (I1 I2 : List It) : okM (fun k => M k ∨ footL I2 k) I1 = okM M (I1 ++ I2) := by
  funext k
  unfold okM footL
  apply propext
  constructor
  · rintro ⟨a, b⟩
    exact ⟨fun hh => a (.inl hh), fun x hx hf => (List.mem_append.1 hx).elim (fun hx => b x hx hf) fun hx => a (.inr ⟨x, hx, hf⟩)⟩
  · rintro ⟨a, b⟩
    exact ⟨fun hh => hh.elim a fun ⟨x, hx, hf⟩ => b x (List.mem_append_right _ hx) hf, fun x hx => b x (List.mem_append_left _ hx)⟩
theorem Own.join {I1 I2 I3 : List It} (h : Own M w0 w (I1 ++ I2)) (h' : Own (fun k => M k ∨ footL I2 k) ⟨w, footL I1⟩ w' I3) : Own M w0 w' (I3 ++ I2) ∧ Goes (okM M (I1 ++ I2)) (okM M (I3 ++ I2)) w w' := by
  have hfrm : Frm (footL I1) w w' := h'.frm
  have lt3 : ∀ {p : Nat} {x : It} {k : Nat}, I3[p]? = some x → x.foot k → (w.heap.size ≤ k ∨ footL I1 k) ∧ k < w'.heap.size := fun hp hf => h'.lt hp hf
  have in1 : ∀ k, footL I1 k → (w0.heap.size ≤ k ∨ w0.F k) ∧ k < w.heap.size := by
    rintro k ⟨x, hx, hf⟩
    obtain ⟨p, hp⟩ := List.mem_iff_getElem?.1 (List.mem_append_left I2 hx)
    exact h.lt hp hf
  have no12 : ∀ k x y, x ∈ I1 → y ∈ I2 → x.foot k → ¬ y.foot k := by
    intro k x y hx hy hfx hfy
    exact h'.apart k (.inr ⟨y, hy, hfy⟩) ⟨x, hx, hfx⟩
  have hgo : Goes (okM M (I1 ++ I2)) (okM M (I3 ++ I2)) w w' := by
    intro b hb hlt
    have hb1 : ¬ footL I1 b := fun ⟨x, hx, hf⟩ => hb.2 x (List.mem_append_left _ hx) hf
    refine ⟨⟨hb.1, fun x hx hf => ?_⟩, hfrm.block b hlt hb1⟩
    rcases List.mem_append.1 hx with hx | hx
    · obtain ⟨p, hp⟩ := List.mem_iff_getElem?.1 hx
      rcases (lt3 hp hf).1 with h1 | h1
      · omega
      · exact hb1 h1
    · exact hb.2 x (List.mem_append_right _ hx) hf
  have at2 : ∀ {q : Nat} {y : It}, I2[q]? = some y → (I1 ++ I2)[I1.length + q]? = some y := by
    intro q y hq
    rw [List.getElem?_append_right (by omega), show I1.length + q - I1.length = q from by omega]; exact hq
  have split3 : ∀ {i : Nat} {x : It}, (I3 ++ I2)[i]? = some x → (i < I3.length ∧ I3[i]? = some x) ∨ (I3.length ≤ i ∧ I2[i - I3.length]? = some x) := by
    intro i x hi
    by_cases hl : i < I3.length
    · rw [List.getElem?_append_left hl] at hi; exact .inl ⟨hl, hi⟩
    · rw [List.getElem?_append_right (by omega)] at hi; exact .inr ⟨by omega, hi⟩
  refine ⟨⟨Frm.trans h.frm hfrm (fun _ h => h) (fun k hk hm => (in1 k hm).1.resolve_left (by omega)), h.bd, fun i x hi => ?_, fun i j x y hij hx hy k hfx hfy => ?_, h.apart⟩, hgo⟩
  · rcases split3 hi with ⟨hl, hi⟩ | ⟨hl, hi⟩
    · obtain ⟨h1, h2⟩ := h'.ok i x hi
      rw [okM_part] at h1
      refine ⟨h1, fun k hk => ⟨?_, (h2 k hk).2⟩⟩
      rcases (h2 k hk).1 with h3 | h3
      · have := h.frm.size; left; exact Nat.le_trans this h3
      · exact (in1 k h3).1
    · obtain ⟨h1, h2⟩ := h.ok _ x (at2 hi)
      refine ⟨x.stable hgo hfrm.size (fun k hk => (h2 k hk).2) (fun k hk => hfrm.block k (h2 k hk).2 fun ⟨z, hz, hfz⟩ => no12 k z x hz (List.mem_of_getElem? hi) hfz hk) h1, fun k hk => ⟨(h2 k hk).1, Nat.lt_of_lt_of_le (h2 k hk).2 hfrm.size⟩⟩
  · rcases split3 hx with ⟨hl, hx⟩ | ⟨hl, hx⟩ <;> rcases split3 hy with ⟨hl', hy⟩ | ⟨hl', hy⟩
    · exact h'.dis i j x y hij hx hy k hfx hfy
    · rcases (lt3 hx hfx).1 with h1 | ⟨z, hz, hfz⟩
      · have := (h.lt (at2 hy) hfy).2
        omega
      · exact no12 k z y hz (List.mem_of_getElem? hy) hfz hfy
    · rcases (lt3 hy hfy).1 with h1 | ⟨z, hz, hfz⟩
      · have := (h.lt (at2 hx) hfx).2
        omega
      · exact no12 k z x hz (List.mem_of_getElem? hx) hfz hfx
    · exact h.dis _ _ x y (by omega) (at2 hx) (at2 hy) k hfx hfy
variable {c : Ch} {dst : Option Tmp} {ty : TypeId} {pos : String} {aft : Array Edge} {ops : Array Oper} {K : Exit → Act → World → Prop} {rest : List Oper} {d : Nat}
theorem l_callH {f : Operand} {fid : FuncId} {ps : List Operand} {tys : Array TypeId} {fn : Func} {xs : List AV} {I1 I2 : List It} {Q : AV → List It → Prop} {js : List Nat} (hk : S M w0 a w n I σ Df) (hp : FW.pick I js = I1 ++ I2) (hn : Nat.blt d n = true) (hf' : chFree σ d = true)
    (hv : opvc σ [] f = some (.lit (.func (.func fid) #[] #[]))) (hx : argsA σ [] ps = some xs)
    (hf : P.funcs[fid]? = some fn) (hb : fn.body.isSome = true) (hnm : (fn.name == "runtime.NumGoroutine") = false) (hok : OkH P fid xs I1 Q)
    (h : ∀ y I3, Q y I3 → ∀ a' w', S M w0 a' w' n (I3 ++ I2) ((d, [], y) :: σ) Df → wpList P ops K rest a' w') :
    wpList P ops K (⟨some d, .call { callee := .value f, args := ps.toArray, argTypes := tys }, ty, pos, aft, none⟩ :: rest) a w := by
  have hk1 := hk.pick hp
  have hargs : RepL (okM (fun k => M k ∨ footL I2 k) I1) w xs (ps.map a.eval) := by
    rw [okM_part]; exact rep_args hk1.kn (holds_nil a) hx
  have hc := hok (fun k => M k ∨ footL I2 k) w (ps.map a.eval).toArray hk1.own.part (by simpa using hargs)
  refine leffcall (R := fun v w' => ∃ y I3, Q y I3 ∧ Own (fun k => M k ∨ footL I2 k) ⟨w, footL I1⟩ w' I3 ∧ Rep (okM (fun k => M k ∨ footL I2 k) I3) w' y v) hk1 rfl rfl hn hf' (run_call (f := f) (hk1.kn.val (holds_nil a) hv) (by simp) hf hb hnm) (hc.mono fun e w' ⟨v, y, I3, he, hq, ho, hr⟩ => ⟨v, he, y, I3, hq, ho, hr⟩) ?_
  rintro v w' ⟨y, I3, hq, ho, hr⟩
  obtain ⟨ho', hgo⟩ := hk1.own.join ho
  rw [okM_part] at hr
  exact ⟨I3 ++ I2, y, ⟨ho', hk1.kn.go hgo⟩, hr, fun a' h' => h y I3 hq a' w' h'⟩
end
end Go.Proofs.YtfbkgaandmebaaaGreat.FW
namespace Go.Proofs.YtfbkgaandmebaaaGreat.FW
variable {Df : List Deferred}
open Go.RowKit Go.MapKept
set_option linter.unusedVariables false
set_option linter.unusedSimpArgs false
set_option linter.unusedSectionVars false
def evS (s : List UInt8) : Value := .string (B s)
section
variable {P : Program} {M : Nat → Prop} {w0 : Bs} {w : World} {a : Act} {n : Nat} {I : List It} {σ : St} {o : Oper} {ops : Array Oper} {Q : Exit → Act → World → Prop} {rest : List Oper}
theorem lval {v : Value} {w' : World} {I' : List It} (hk : S M w0 a w n I σ Df) (hg : o.guard = none) (hd : o.dst = none)
    (hr : (execOp a.eval o).run P w = .ok (.value v) w') (hk' : S M w0 a w' n I' σ Df) (h : S M w0 a w' n I' σ Df → wpList P ops Q rest a w') : wpList P ops Q (o :: rest) a w := by
  unfold wpList
  rw [if_pos (by simp [Region.wanted, hg])]
  left
  unfold Oper.wp
  rw [hr, Oper.upon_value, hd]
  exact h hk'
end
def mget {κ ν : Type} [DecidableEq κ] (m : List (κ × ν)) (k : κ) : Option ν := (m.find? fun p => decide (p.1 = k)).map (·.2)
def mput {κ ν : Type} [DecidableEq κ] (m : List (κ × ν)) (k : κ) (v : ν) : List (κ × ν) :=
  if (m.any fun p => decide (p.1 = k)) = true then m.map fun p => if p.1 = k then (p.1, v) else p else m ++ [(k, v)]
structure KeyOk {κ : Type} (D : TypeDesc) (ek : κ → Value) : Prop where
  inj : ∀ a b, ek a = ek b → a = b
  is : ∀ a, IsKey D (ek a)
theorem keyI64 : KeyOk (.int .i64) (Value.int .i64) := ⟨fun a b h => by injection h, fun a => rfl⟩
theorem keyU64 : KeyOk (.int .u64) (Value.int .u64) := ⟨fun a b h => by injection h, fun a => rfl⟩
structure MapP {κ ν : Type} (D : TypeDesc) (ek : κ → Value) (ev : ν → Value) (r : Nat) (m : List (κ × ν)) (w : World) (es : Array MapEntry) (clock : Nat) : Prop where
  at_ : w.heap[r]? = some (.map es clock)
  stamped : Stamped es clock
  ents : es.toList.map (fun e => (e.key, e.val)) = m.map fun p => (ek p.1, ev p.2)
  key : KeyOk D ek
def mapI {κ ν : Type} (D : TypeDesc) (ek : κ → Value) (ev : ν → Value) (r : Nat) (m : List (κ × ν)) : It where
  foot := fun k => k = r
  P := fun _ w => ∃ es clock, MapP D ek ev r m w es clock
  stable := by
    rintro ok ok' w w' _ _ _ hb ⟨es, clock, h⟩
    exact ⟨es, clock, ⟨(hb r rfl).trans h.at_, h.stamped, h.ents, h.key⟩⟩
section
variable {κ ν : Type} [DecidableEq κ] {D : TypeDesc} {ek : κ → Value} {ev : ν → Value} {r : Nat} {m : List (κ × ν)} {w : World} {es : Array MapEntry} {clock : Nat}
theorem MapP.keys (h : MapP D ek ev r m w es clock) : ∀ x ∈ es.toList, IsKey D x.key := by
  intro x hx
  have : (x.key, x.val) ∈ es.toList.map fun e => (e.key, e.val) := List.mem_map.2 ⟨x, hx, rfl⟩
  rw [h.ents] at this
  obtain ⟨p, _, hp⟩ := List.mem_map.1 this
  injection hp with hp _
  rw [← hp]; exact h.key.is _
theorem MapP.at' (h : MapP D ek ev r m w es clock) {j : Nat} {e : MapEntry} (he : es.toList[j]? = some e) : ∃ p, m[j]? = some p ∧ ek p.1 = e.key ∧ ev p.2 = e.val := by
  have h1 : (es.toList.map fun e => (e.key, e.val))[j]? = some (e.key, e.val) := by simp [he]
  rw [h.ents, List.getElem?_map] at h1
  obtain ⟨p, hp, hpe⟩ := Option.map_eq_some_iff.1 h1
  injection hpe with h2 h3
  exact ⟨p, hp, h2, h3⟩
theorem MapP.len (h : MapP D ek ev r m w es clock) : es.size = m.length := by
  have := congrArg List.length h.ents
  simpa using this
theorem MapP.find (h : MapP D ek ev r m w es clock) (k : κ) :
    (Instr.findNow D (ek k) es.toList 0 = some none ∧ (∀ x ∈ es.toList, x.key ≠ ek k) ∧ (∀ p ∈ m, p.1 ≠ k)) ∨
    ∃ j e p, Instr.findNow D (ek k) es.toList 0 = some (some (j, e.val)) ∧ es.toList[j]? = some e ∧ e.key = ek k ∧ m[j]? = some p ∧ p.1 = k ∧ ev p.2 = e.val := by
  rcases findNow_spec (h.key.is k) es.toList 0 h.keys with ⟨h1, h2⟩ | ⟨j, e, h1, h2, h3⟩
  · refine .inl ⟨h1, h2, fun p hp he => ?_⟩
    have : (ek p.1, ev p.2) ∈ es.toList.map fun e => (e.key, e.val) := by rw [h.ents]; exact List.mem_map.2 ⟨p, hp, rfl⟩
    obtain ⟨x, hx, hxe⟩ := List.mem_map.1 this
    injection hxe with hx1 _
    exact h2 x hx (by rw [hx1, he])
  · obtain ⟨p, hp, hp1, hp2⟩ := h.at' h2
    exact .inr ⟨j, e, p, by simpa using h1, h2, h3, hp, h.key.inj _ _ (hp1.trans h3), hp2⟩
theorem MapP.nodup (h : MapP D ek ev r m w es clock) : (m.map (·.1)).Nodup := by
  have h1 := h.stamped.2.2
  have h2 : es.toList.map (·.key) = m.map fun p => ek p.1 := by
    have := congrArg (List.map Prod.fst) h.ents
    simpa [Function.comp_def] using this
  rw [h2] at h1
  have h3 : (m.map fun p => ek p.1) = (m.map (·.1)).map ek := by simp [Function.comp_def]
  rw [h3] at h1
  exact (List.pairwise_map.1 h1).imp fun hne he => hne (by rw [he])
theorem mget_none {k : κ} (h : ∀ p ∈ m, p.1 ≠ k) : mget m k = none := by
  unfold mget
  rw [List.find?_eq_none.2 (by simpa using h)]; rfl
theorem mget_at (hn : (m.map (·.1)).Nodup) {j : Nat} {p : κ × ν} (hp : m[j]? = some p) : mget m p.1 = some p.2 := by
  induction m generalizing j with
  | nil => simp at hp
  | cons q m ih =>
    unfold mget
    rw [List.map_cons, List.nodup_cons] at hn
    cases j with
    | zero =>
      simp only [List.getElem?_cons_zero, Option.some.injEq] at hp
      subst hp
      simp
    | succ j =>
      simp only [List.getElem?_cons_succ] at hp
      have hne : ¬ q.1 = p.1 := fun e => hn.1 (by rw [e]; exact List.mem_map.2 ⟨p, List.mem_of_getElem? hp, rfl⟩)
      rw [List.find?_cons, decide_eq_false hne]
      exact ih hn.2 hp
theorem MapP.get (h : MapP D ek ev r m w es clock) (k : κ) : (∃ j e v, Instr.findNow D (ek k) es.toList 0 = some (some (j, e)) ∧ mget m k = some v ∧ ev v = e) ∨ (Instr.findNow D (ek k) es.toList 0 = some none ∧ mget m k = none) := by
  rcases h.find k with ⟨h1, _, h3⟩ | ⟨j, e, p, h1, _, _, hp, rfl, hv⟩
  · exact .inr ⟨h1, mget_none h3⟩
  · exact .inl ⟨j, e.val, p.2, h1, mget_at h.nodup hp, hv⟩
end
section
variable {P : Program} {M : Nat → Prop} {w0 : Bs} {w : World} {a : Act} {n : Nat} {I I' : List It} {σ : St} {c : Ch} {dst : Option Tmp} {ty : TypeId} {pos : String} {aft : Array Edge} {g : Option (Nat × Bool)} {x y z : Operand} {u : AV} {ops : Array Oper} {Q : Exit → Act → World → Prop} {rest : List Oper} {d j : Nat}
  {κ ν : Type} [DecidableEq κ] {D : TypeDesc} {ek : κ → Value} {ev : ν → Value} {r : Nat} {m : List (κ × ν)} {k : κ} {v : ν} {t kt et : TypeId}
theorem run_lookup {zv : Value} (b : Bool) (hk : S M w0 a w n I σ Df) (hj : I[j]? = some (mapI D ek ev r m)) (ht : P.underlying t = some (.map kt et)) (hd : P.underlying kt = some D) (hz : (P.info? et).bind (·.zero) = some zv) :
    (Instr.lookup t (.map (some r)) (ek k) b).run P w = .ok (if b then .tuple #[((mget m k).map ev).getD zv, .bool (mget m k).isSome] else ((mget m k).map ev).getD zv) w := by
  obtain ⟨es, clock, h⟩ := hk.own.get hj
  obtain ⟨inf, hi, hz'⟩ := Option.bind_eq_some_iff.1 hz
  rcases h.get k with ⟨j', e, v, h1, h2, h3⟩ | ⟨h1, h2⟩
  · simp [Instr.lookup, run_underlying ht, MapKept.run_getObj_map h.at_, run_checkKey hd (h.key.is k), run_findKey hd h1, h2, h3]
  · simp [Instr.lookup, run_underlying ht, MapKept.run_getObj_map h.at_, run_checkKey hd (h.key.is k), run_findKey hd h1, h2, zeroValue, typeInfo, hi, hz']
theorem f_lookup2 {z : ν} (hk : S M w0 a w n I σ Df) (hc : holds a c) (hj : I[j]? = some (mapI D ek ev r m)) (hx : opvc σ c x = some (.lit (.map (some r)))) (hy : opvc σ c y = some (.lit (ek k))) (ht : P.underlying t = some (.map kt et)) (hd : P.underlying kt = some D) (hz : (P.info? et).bind (·.zero) = some (ev z)) :
    Fun P (okM M I) ⟨dst, .lookup t x y true, ty, pos, aft, g⟩ a w (.tup [.lit (ev ((mget m k).getD z)), .lit (.bool (mget m k).isSome)]) := by
  refine .inl ⟨.tuple #[((mget m k).map ev).getD (ev z), .bool (mget m k).isSome], w, ?_, New.refl w, ?_⟩
  · simp only [execOp, hk.kn.val hc hx, hk.kn.val hc hy, Sem.run_bind, run_lookup true hk hj ht hd hz, Result.andThen_ok]
    rfl
  · cases hg : mget m k <;> simp [Rep, RepL]
theorem f_lookup1 {z : ν} (hk : S M w0 a w n I σ Df) (hc : holds a c) (hj : I[j]? = some (mapI D ek ev r m)) (hx : opvc σ c x = some (.lit (.map (some r)))) (hy : opvc σ c y = some (.lit (ek k))) (ht : P.underlying t = some (.map kt et)) (hd : P.underlying kt = some D) (hz : (P.info? et).bind (·.zero) = some (ev z)) :
    Fun P (okM M I) ⟨dst, .lookup t x y false, ty, pos, aft, g⟩ a w (.lit (ev ((mget m k).getD z))) := by
  refine .inl ⟨((mget m k).map ev).getD (ev z), w, ?_, New.refl w, ?_⟩
  · simp only [execOp, hk.kn.val hc hx, hk.kn.val hc hy, Sem.run_bind, run_lookup false hk hj ht hd hz, Result.andThen_ok]
    rfl
  · cases hg : mget m k <;> simp [Rep]
theorem Frm.putObj (w : World) (r : Nat) (o : Obj) : Frm (fun k => k = r) w { w with heap := w.heap.setIfInBounds r o } :=
  ⟨rfl, rfl, rfl, by simp, fun k _ hn => by simp [Array.getElem?_setIfInBounds, Ne.symm hn]⟩
theorem l_makeMap (hk : S M w0 a w n I σ Df) (hn : Nat.blt d n = true) (hf : chFree σ d = true) (hkey : KeyOk D ek)
    (h : ∀ r a' w', S M w0 a' w' n (mapI D ek ev r ([] : List (κ × ν)) :: I) ((d, [], .lit (.map (some r))) :: σ) Df → wpList P ops Q rest a' w') :
    wpList P ops Q (⟨some d, .makeMap t none, ty, pos, aft, none⟩ :: rest) a w := by
  have hr : (execOp a.eval ⟨some d, .makeMap t none, ty, pos, aft, none⟩).run P w = .ok (.value (.map (some w.heap.size))) (w.alloc (.map #[] 0)) := by
    simp [execOp, Instr.makeMap]
  refine leff hk rfl rfl hn hf hr ?_ (rep_lit rfl) (fun a' hk' => h _ _ _ hk')
  refine hk.push (New.alloc w _) ⟨#[], 0, heap_alloc_new w _, stamped_empty 0, rfl, hkey⟩ fun k hk' => ?_
  have hk' : k = w.heap.size := hk'
  subst hk'
  simp
theorem MapP.put {w : World} {es : Array MapEntry} {clock : Nat} (h : MapP D ek ev r m w es clock) (k : κ) (v : ν) (ht : P.underlying t = some (.map kt et)) (hd : P.underlying kt = some D) :
    ∃ w' es' clock', (Instr.mapUpdate t (.map (some r)) (ek k) (ev v)).run P w = .ok () w' ∧ Frm (fun k => k = r) w w' ∧ MapP D ek ev r (mput m k v) w' es' clock' := by
  rcases h.find k with ⟨h1, h2, h3⟩ | ⟨j, e, p, h1, h2, h3, hp, hpk, hv⟩
  · refine ⟨_, es.push ⟨ek k, ev v, clock⟩, clock + 1, ?_, Frm.putObj w r (.map (es.push ⟨ek k, ev v, clock⟩) (clock + 1)), (heap_set h.at_).1, stamped_push h.stamped h2, ?_, h.key⟩
    · simp [Instr.mapUpdate, run_underlying ht, MapKept.run_getObj_map h.at_, run_checkKey hd (h.key.is k), run_findKey hd h1, run_setObj_map _ h.at_]
    · have ha : (m.any fun p => decide (p.1 = k)) = false := by
        rw [List.any_eq_false]; intro p hp; simpa using h3 p hp
      unfold mput
      rw [ha, if_neg (by simp)]
      simp [h.ents]
  · have hj : es[j]? = some e := by simpa using h2
    have hkey : ∀ e', es[j]? = some e' → ({ e' with key := ek k, val := ev v } : MapEntry).key = e'.key := fun e' he' => by rw [hj] at he'; cases he'; exact h3.symm
    refine ⟨_, es.modify j fun e => { e with key := ek k, val := ev v }, clock, ?_, Frm.putObj w r (.map (es.modify j fun e => { e with key := ek k, val := ev v }) clock), (heap_set h.at_).1, stamped_modify h.stamped _ _ (fun _ _ => rfl) (fun e' _ he' => hkey e' he'), ?_, h.key⟩
    · simp [Instr.mapUpdate, run_underlying ht, MapKept.run_getObj_map h.at_, run_checkKey hd (h.key.is k), run_findKey hd h1, hj, h3, run_keyThatStays (h.key.is k), run_setObj_map _ h.at_]
    · have ha : (m.any fun p => decide (p.1 = k)) = true := by
        rw [List.any_eq_true]; exact ⟨p, List.mem_of_getElem? hp, by simpa using hpk⟩
      unfold mput
      rw [if_pos ha]
      apply List.ext_getElem?
      intro i
      have hnd := h.nodup
      have hen : ∀ i : Nat, (es.toList.map fun e => (e.key, e.val))[i]? = (m.map fun p => (ek p.1, ev p.2))[i]? := fun i => by rw [h.ents]
      have heni := hen i
      rw [List.getElem?_map, List.getElem?_map] at heni
      rw [List.getElem?_map, List.getElem?_map, List.getElem?_map, Array.getElem?_toList, Array.getElem?_modify]
      rw [Array.getElem?_toList] at heni
      by_cases hij : j = i
      · subst hij
        rw [if_pos rfl, hj, hp]
        simp [hpk]
      · rw [if_neg hij, heni]
        cases hm : m[i]? with
        | none => rfl
        | some q =>
          have hq : ¬ q.1 = k := by
            intro he
            have h1 : (m.map (·.1))[i]? = some k := by simp [hm, he]
            have h2 : (m.map (·.1))[j]? = some k := by simp [hp, hpk]
            exact hij ((List.getElem?_inj (by have := (List.getElem?_eq_some_iff.1 h2).1; simpa using this) hnd).1 (h2.trans h1.symm))
          simp [hq]
theorem l_mapUpdate {I' : List It} (hk : S M w0 a w n I σ Df) (hj : I[j]? = some (mapI D ek ev r m)) (hx : opvc σ [] x = some (.lit (.map (some r)))) (hy : opvc σ [] y = some (.lit (ek k))) (hz : opvc σ [] z = some (.lit (ev v))) (ht : P.underlying t = some (.map kt et)) (hd : P.underlying kt = some D)
    (hI : I.set j (mapI D ek ev r (mput m k v)) = I') (h : ∀ w', S M w0 a w' n I' σ Df → wpList P ops Q rest a w') :
    wpList P ops Q (⟨none, .mapUpdate t x y z, ty, pos, aft, none⟩ :: rest) a w := by
  obtain ⟨es, clock, hm⟩ := hk.own.get hj
  obtain ⟨w', es', clock', hr, hw, hm'⟩ := hm.put k v ht hd
  subst hI
  have hr' : (execOp a.eval ⟨none, .mapUpdate t x y z, ty, pos, aft, none⟩).run P w = .ok .skip w' := by
    simp only [execOp, hk.kn.val (holds_nil a) hx, hk.kn.val (holds_nil a) hy, hk.kn.val (holds_nil a) hz, Sem.run_bind, hr, Result.andThen_ok]
    rfl
  refine lskip hk rfl rfl hr' ?_ (fun hk' => h _ hk')
  refine hk.upd hj hw ⟨es', clock', hm'⟩ fun k hk' => ⟨.inl hk', ?_⟩
  have : k < w.heap.size := (hk.own.lt hj (k := k) hk').2
  exact Nat.lt_of_lt_of_le this hw.size
theorem l_clearMap {I' : List It} (hk : S M w0 a w n I σ Df) (hj : I[j]? = some (mapI D ek ev r m)) (hx : opvc σ [] x = some (.lit (.map (some r)))) (ht : P.underlying t = some (.map kt et))
    (hI : I.set j (mapI D ek ev r ([] : List (κ × ν))) = I') (h : ∀ w', S M w0 a w' n I' σ Df → wpList P ops Q rest a w') :
    wpList P ops Q (⟨none, .call { callee := .builtin .clear, args := #[x], argTypes := #[t] }, ty, pos, aft, none⟩ :: rest) a w := by
  obtain ⟨es, clock, hm⟩ := hk.own.get hj
  subst hI
  have hr' : (execOp a.eval ⟨none, .call { callee := .builtin .clear, args := #[x], argTypes := #[t] }, ty, pos, aft, none⟩).run P w = .ok (.value (.tuple #[])) { w with heap := w.heap.setIfInBounds r (.map #[] clock) } := by
    simp [execOp, resolve, invoke, builtin, hk.kn.val (holds_nil a) hx, Builtin.clear_, run_underlying ht, MapKept.run_getObj_map hm.at_, run_setObj_map _ hm.at_]
  refine lval hk rfl rfl hr' ?_ (fun hk' => h _ hk')
  refine hk.upd hj (Frm.putObj w r _) ⟨#[], clock, (heap_set hm.at_).1, stamped_empty _, rfl, hm.key⟩ fun k hk' => ⟨.inl hk', ?_⟩
  have : k < w.heap.size := (hk.own.lt hj (k := k) hk').2
  simpa using this
end
end Go.Proofs.YtfbkgaandmebaaaGreat.FW
namespace Go.Proofs.YtfbkgaandmebaaaGreat.FW
variable {Df : List Deferred}
open Go.RowKit
set_option linter.unusedVariables false
set_option linter.unusedSimpArgs false
set_option linter.unusedSectionVars false
section
variable {P : Program} {ok : Nat → Prop} {a : Act} {n : Nat} {σ : St} {wk : World} {c : Ch} {dst : Option Tmp} {ty : TypeId} {pos : String} {aft : Array Edge} {g : Option (Nat × Bool)} {t t' e : TypeId} {x y : Operand} {A : Addr}
theorem eqGuard_ptr (op : BinOp) (t : TypeId) (x y : Operand) (p q : Option Addr) (w : World) : (eqGuard op t x y (.pointer p) (.pointer q)).run P w = .ok () w := by
  unfold eqGuard; cases op <;> simp
theorem equal_ptr {A : Option Addr} (hu : P.underlying t = some (.pointer e)) (w : World) : (Op.equal t (.pointer A) (.pointer none)).run P w = .ok A.isNone w := by
  unfold Op.equal
  rw [show Op.maxDepth = 9999 + 1 from rfl, Op.equalIn]
  simp only [Sem.run_bind, run_underlying hu, Result.andThen_ok]
  cases A <;> rfl
theorem run_eqlp {A : Option Addr} (hu : P.underlying t = some (.pointer e)) (w : World) : (binOp .eql t (.pointer A) (.pointer none)).run P w = .ok (.bool A.isNone) w := by
  simp only [binOp, Sem.run_bind, equal_ptr hu, Result.andThen_ok, Sem.run_pure]
theorem run_neqp {A : Option Addr} (hu : P.underlying t = some (.pointer e)) (w : World) : (binOp .neq t (.pointer A) (.pointer none)).run P w = .ok (.bool (!A.isNone)) w := by
  simp only [binOp, Sem.run_bind, equal_ptr hu, Result.andThen_ok, Sem.run_pure]
theorem p_ptrEq {A : Option Addr} {b : Bool} (hu : P.underlying t = some (.pointer e)) (hk : Knows ok a wk n σ Df) (hc : holds a c) (hx : opvc σ c x = some (.lit (.pointer A))) (hy : opvc σ c y = some (.lit (.pointer none))) (hb : A.isNone = b) :
    PureOp P a ⟨dst, .binOp .eql t x y t', ty, pos, aft, g⟩ (.bool b) := by
  intro w; subst hb
  simp only [execOp, hk.val hc hx, hk.val hc hy, Sem.run_bind, eqGuard_ptr, Result.andThen_ok, run_eqlp hu, Sem.run_pure]
theorem p_ptrNe {A : Option Addr} {b : Bool} (hu : P.underlying t = some (.pointer e)) (hk : Knows ok a wk n σ Df) (hc : holds a c) (hx : opvc σ c x = some (.lit (.pointer A))) (hy : opvc σ c y = some (.lit (.pointer none))) (hb : (!A.isNone) = b) :
    PureOp P a ⟨dst, .binOp .neq t x y t', ty, pos, aft, g⟩ (.bool b) := by
  intro w; subst hb
  simp only [execOp, hk.val hc hx, hk.val hc hy, Sem.run_bind, eqGuard_ptr, Result.andThen_ok, run_neqp hu, Sem.run_pure]
end
section
variable {P : Program} {M : Nat → Prop} {w0 : Bs} {w : World} {a : Act} {n : Nat} {I I' : List It} {σ : St} {c : Ch} {dst : Option Tmp} {ty : TypeId} {pos : String} {aft : Array Edge} {g : Option (Nat × Bool)} {x y z : Operand} {u : AV} {ops : Array Oper} {Q : Exit → Act → World → Prop} {rest : List Oper} {d j : Nat}
  {α : Type} [Inhabited α] {f : α → List AV} {l : List α} {ad : Option Addr} {cap : Nat} {e t : TypeId} {sz : Nat}
def elA (ad : Option Addr) (sz : Nat) (i : Int) : AV := .lit (.pointer (ad.map fun b => ⟨b.block, i.toNat * sz, none⟩))
theorem f_idxOwn {k : IntKind} {i : Int} {nl : Nat} (hk : S M w0 a w n I σ Df) (hc : holds a c) (hj : I[j]? = some (orow ad cap e sz f l)) (hx : opvc σ c x = some (.lit (.slice ad nl cap))) (hnl : nl = l.length) (hy : opvc σ c y = some (.lit (.int k i))) (hu : P.underlying t = some (.slice e)) (hs : (P.info? e).map (·.size) = some sz) (hi : asmP σ c (0 ≤ i ∧ i < l.length)) :
    Fun P (okM M I) ⟨dst, .indexAddr t x y, ty, pos, aft, g⟩ a w (elA ad sz i) := by
  subst hnl
  have hi := asm_out hk.kn hc hi
  obtain ⟨hsz, vals, hown, hL⟩ := hk.own.get hj
  obtain ⟨inf, hinf, hs'⟩ := Option.map_eq_some_iff.1 hs
  rcases hown.2 with ⟨hv, hn⟩ | ⟨gb, cp, cur, hv, _, hh, hle, hcm, hcs, htk⟩
  · omega
  · injection hv with h3 h4 h5
    subst h3
    refine .inl ⟨.pointer (some ⟨gb, i.toNat * sz, none⟩), w, ?_, New.refl w, rep_lit rfl⟩
    simp [execOp, hk.kn.val hc hx, hk.kn.val hc hy, Instr.indexAt, asIntOf, run_underlying hu, sizeOf, typeInfo, hinf, hs', hi.1, hi.2, add_addr]
theorem f_loadOwn1 {D : TypeDesc} {i : Int} (hk : S M w0 a w n I σ Df) (hc : holds a c) (hj : I[j]? = some (orow ad cap e 1 f l)) (hx : opvc σ c x = some (elA ad 1 i)) (hi : asmP σ c (0 ≤ i ∧ i < l.length)) (hfu : f (l.getD i.toNat default) = [u]) (hu : P.underlying t = some D) (hd : isAggD D = false) :
    Fun P (okM M I) ⟨dst, .load t x, ty, pos, aft, g⟩ a w u := by
  have hi := asm_out hk.kn hc hi
  obtain ⟨hsz, vals, hown, hL⟩ := hk.own.get hj
  rcases hown.2 with ⟨hv, hn⟩ | ⟨gb, cp, cur, hv, _, hh, hle, hcm, hcs, htk⟩
  · omega
  · injection hv with h3 h4 h5
    subst h3
    have hget : ((l.map f).flatten)[i.toNat]? = some u := by
      have key : ∀ (l : List α) (i : Nat), i < l.length → f (l.getD i default) = [u] → ((l.map f).flatten)[i]? = some u := by
        intro l
        induction l with
        | nil => intro i h; simp at h
        | cons z l ih =>
          intro i h hf
          have hz : (f z).length = 1 := hsz z
          cases i with
          | zero =>
            simp only [List.getD_cons_zero] at hf
            rw [List.map_cons, List.flatten_cons, hf]; rfl
          | succ i =>
            simp only [List.getD_cons_succ] at hf
            rw [List.map_cons, List.flatten_cons, List.getElem?_append_right (by omega), hz]
            simpa using ih i (by simpa using h) hf
      exact key l _ (by omega) hfu
    obtain ⟨v, hv', hr⟩ := hL.get hget
    have hx' : a.eval x = .pointer (some ⟨gb, i.toNat * 1, none⟩) := hk.kn.val hc hx
    have hcell : w.cell? ⟨gb, i.toNat * 1, none⟩ = some v := by
      rw [cell_of_row w gb _ cur e (0, 0) hh, Nat.mul_one]
      rw [← htk, List.getElem?_take] at hv'
      split at hv'
      · simpa using hv'
      · cases hv'
    refine .inl ⟨v, w, ?_, New.refl w, hr⟩
    have : (isAgg t).run P w = .ok false w := by
      simp only [isAgg, Sem.run_bind, run_underlying hu, Result.andThen_ok]
      cases D <;> simp_all [isAggD]
    simp only [execOp, hx', Instr.loadAt, Instr.sureAddr, Sem.run_bind, Sem.run_pure, Result.andThen_ok, loadVar, this]
    rw [Nat.mul_one] at hcell
    simp [load, Sem.run, hcell]
theorem flat_set {l : List α} (hsz : ∀ x, (f x).length = 1) : ∀ (l : List α) (i : Nat) (v : α) (u : AV), f v = [u] → ((l.set i v).map f).flatten = ((l.map f).flatten).set i u
  | [], i, v, u, h => by simp
  | z :: l, 0, v, u, h => by
    obtain ⟨z0, hz⟩ := List.length_eq_one_iff.1 (hsz z)
    simp [h, hz]
  | z :: l, i + 1, v, u, h => by
    obtain ⟨z0, hz⟩ := List.length_eq_one_iff.1 (hsz z)
    have := flat_set (l := l) hsz l i v u h
    simp only [List.map_cons, List.flatten_cons, List.set_cons_succ, hz, this, List.cons_append, List.nil_append]
theorem repL_set {ok : Nat → Prop} : ∀ {cs : List AV} {vs : List Value} (i : Nat) {u : AV} {v : Value}, RepL ok w cs vs → Rep ok w u v → RepL ok w (cs.set i u) (vs.set i v)
  | [], vs, i, u, v, h, _ => by simp only [RepL] at h; subst h; simpa using repL_nil
  | x :: cs, vs, 0, u, v, h, hu => by
    simp only [RepL] at h
    obtain ⟨v0, r, rfl, h1, h2⟩ := h
    exact repL_cons hu h2
  | x :: cs, vs, i + 1, u, v, h, hu => by
    simp only [RepL] at h
    obtain ⟨v0, r, rfl, h1, h2⟩ := h
    exact repL_cons h1 (repL_set i h2 hu)
theorem l_storeOwn1 {i : Int} {v : α} {v' : Value} {I' : List It} (hk : S M w0 a w n I σ Df) (hj : I[j]? = some (orow ad cap e 1 f l)) (hx : opvc σ [] x = some (elA ad 1 i)) (hi : 0 ≤ i ∧ i < l.length) (hy : opvc σ [] y = some (.lit v')) (hfu : f v = [.lit v']) (hcl : v'.cells = #[v']) (hone : v'.oneCell' = true) (hs : (P.info? t).map (·.size) = some 1)
    (hI : I.set j (orow ad cap e 1 f (l.set i.toNat v)) = I') (h : ∀ w', S M w0 a w' n I' σ Df → wpList P ops Q rest a w') : wpList P ops Q (⟨none, .store t x y, ty, pos, aft, none⟩ :: rest) a w := by
  obtain ⟨hsz, vals, hown, hL⟩ := hk.own.get hj
  obtain ⟨inf, hinf, hs'⟩ := Option.map_eq_some_iff.1 hs
  rcases hown.2 with ⟨hv, hn⟩ | ⟨gb, cp, cur, hv, hb0, hh, hle, hcm, hcs, htk⟩
  · omega
  · injection hv with h3 h4 h5
    subst h3; subst h5
    have hx' : a.eval x = .pointer (some ⟨gb, i.toNat * 1, none⟩) := hk.kn.val (holds_nil a) hx
    have hy' : a.eval y = v' := hk.kn.val (holds_nil a) hy
    have hlt : i.toNat < cur.size := by rw [hcs]; omega
    have hst := run_storeCells_at (P := P) gb i.toNat e [v'] 0 cur w hh (by simp; omega) (by simpa using hone)
    simp only [Nat.add_zero] at hst
    have hrow : (cur.toList.take i.toNat ++ [v'] ++ cur.toList.drop (i.toNat + [v'].length)) = cur.toList.set i.toNat v' := by
      rw [List.set_eq_take_append_cons_drop, if_pos (by simpa using hlt)]
      simp
    rw [hrow] at hst
    have hr : (execOp a.eval ⟨none, .store t x y, ty, pos, aft, none⟩).run P w = .ok .skip (w.setRow gb (cur.toList.set i.toNat v').toArray) := by
      have hso : (sizeOf t).run P w = .ok inf.size w := by simp [sizeOf, typeInfo, hinf]
      simp only [execOp, hx', hy', Instr.storeAt, Instr.sureAddr, storeVar, Sem.run_bind, Sem.run_pure, Result.andThen_ok, hso, hs', hcl, Nat.mul_one]
      simp only [List.size_toArray, List.length_cons, List.length_nil, ne_eq, not_true_eq_false, ite_false, Sem.run_bind, Sem.run_pure, Result.andThen_ok, hst]
    subst hI
    have hfoot : ∀ k, (orow (some ⟨gb, 0, none⟩) cap e 1 f (l.set i.toNat v)).foot k → ((orow (some ⟨gb, 0, none⟩) cap e 1 f l).foot k ∨ w.heap.size ≤ k) ∧ k < (w.setRow gb (cur.toList.set i.toNat v').toArray).heap.size := by
      intro k hk'
      have hk0 : Value.ownBlock (.slice (some ⟨gb, 0, none⟩) (l.set i.toNat v).length cap) = some k := hk'
      simp only [Value.ownBlock, Option.some.injEq] at hk0
      subst hk0
      have hf : (orow (some ⟨gb, 0, none⟩) cap e 1 f l).foot gb := rfl
      exact ⟨.inl hf, by have := (hk.own.lt hj hf).2; simpa [World.setRow] using this⟩
    have hfrm : Frm (orow (some ⟨gb, 0, none⟩) cap e 1 f l).foot w (w.setRow gb (cur.toList.set i.toNat v').toArray) := (Frm.setRow w gb _).mono fun k hk' => by subst hk'; rfl
    refine lskip hk rfl rfl hr ?_ (fun hk' => h _ hk')
    refine hk.upd hj hfrm ⟨hsz, vals.set i.toNat v', ⟨by simpa using hown.1, .inr ⟨gb, cap, _, by simp, hb0, setRow_heap w gb cur _ e (0, 0) hh, by simpa using hle, hcm, by simpa using hcs, ?_⟩⟩, ?_⟩ hfoot
    · rw [← htk]
      simp only [List.length_set, Nat.mul_one]
      rw [List.take_set]
    · rw [flat_set (l := l) hsz l _ v _ hfu]
      refine repL_set _ (RepL.go (Goes.upd hk.own hj hfrm hfoot) _ _ hL) (rep_lit rfl)
end
end Go.Proofs.YtfbkgaandmebaaaGreat.FW
namespace Go.Proofs.YtfbkgaandmebaaaGreat.FW
variable {Df : List Deferred}
open Go.RowKit
set_option linter.unusedVariables false
set_option linter.unusedSimpArgs false
set_option linter.unusedSectionVars false
section
variable {P : Program} {M : Nat → Prop} {w0 : Bs} {w : World} {a : Act} {n : Nat} {I I1 I2 : List It} {σ : St} {Q : Exit → Act → World → Prop}
theorem S.dropTail : ∀ {I2 I1 : List It}, S M w0 a w n (I1 ++ I2) σ Df → S M w0 a w n I1 σ Df
  | [], I1, h => by simpa using h
  | it :: I2, I1, h => by
    have h1 := h.drop I1.length
    rw [List.eraseIdx_append_of_length_le (Nat.le_refl _)] at h1
    simp only [Nat.sub_self, List.eraseIdx_cons_zero] at h1
    exact S.dropTail h1
theorem S.keep {js : List Nat} (h : S M w0 a w n I σ Df) (hp : FW.pick I js = I1 ++ I2) : S M w0 a w n I1 σ Df := (h.pick hp).dropTail
theorem S.cast {I' : List It} {σ' : St} (h : S M w0 a w n I σ Df) (hI : I = I') (hσ : σ = σ') : S M w0 a w n I' σ' Df := by subst hI; subst hσ; exact h
theorem wcondT {t : Operand} {x y : Code} (hk : S M w0 a w n I σ Df) (ht : opvc σ [] t = some (.lit (.bool true))) (h1 : x.wp P Q a w) : (Code.cond t x y).wp P Q a w := wcond hk ht (fun _ => h1) (fun h => by cases h)
theorem wcondX {t : Operand} {x y : Code} (hk : S M w0 a w n I σ Df) (ht : opvc σ [] t = some (.lit (.bool false))) (h1 : y.wp P Q a w) : (Code.cond t x y).wp P Q a w := wcond hk ht (fun h => by cases h) (fun _ => h1)
theorem noHold {ok : Nat → Prop} {g : Nat} {b want : Bool} {c : Ch} (hk : Knows ok a w n σ Df) (hl : look σ g = some ([], .lit (.bool b))) (hb : (b == want) = false) : ¬ holds a ((g, want) :: c) := by
  intro hh
  have h1 := hh (g, want) List.mem_cons_self
  have h2 := (hk.ent g [] _ hl).1 (holds_nil a)
  simp only [Rep] at h2
  rw [h2] at h1
  injection h1 with h1
  subst h1
  simp at hb
end
section
variable {P : Program} {ok : Nat → Prop} {a : Act} {wk : World} {n : Nat} {σ : St} {c : Ch} {dst : Option Tmp} {ty : TypeId} {pos : String} {aft : Array Edge} {g : Option (Nat × Bool)} {x y z : Operand} {k : IntKind} {p q : Int} {tys : Array TypeId} {v : Value}
theorem holds_more {s : Nat} {b : Bool} (hk : Knows ok a wk n σ Df) (hc : holds a c) (hs : opvc σ c (.tmp s) = some (.lit (.bool b))) : holds a ((s, b) :: c) := by
  intro p hp
  rcases List.mem_cons.1 hp with rfl | hp
  · exact hk.val hc hs
  · exact hc p hp
theorem p_pickT {s : Nat} (hk : Knows ok a wk n σ Df) (hc : holds a c) (hs : opvc σ c (.tmp s) = some (.lit (.bool true))) (hx : opvc σ ((s, true) :: c) y = some (.lit v)) : PureOp P a ⟨dst, .pick (.tmp s) y z, ty, pos, aft, g⟩ v := by
  intro w; simp [execOp, hk.val hc hs, hk.val (holds_more hk hc hs) hx, asBool]
theorem p_pickX {s : Nat} (hk : Knows ok a wk n σ Df) (hc : holds a c) (hs : opvc σ c (.tmp s) = some (.lit (.bool false))) (hx : opvc σ ((s, false) :: c) z = some (.lit v)) : PureOp P a ⟨dst, .pick (.tmp s) y z, ty, pos, aft, g⟩ v := by
  intro w; simp [execOp, hk.val hc hs, hk.val (holds_more hk hc hs) hx, asBool]
theorem p_min (hk : Knows ok a wk n σ Df) (hc : holds a c) (hx : opvc σ c x = some (.lit (.int k p))) (hy : opvc σ c y = some (.lit (.int k q))) :
    PureOp P a ⟨dst, .call { callee := .builtin .min, args := #[x, y], argTypes := tys }, ty, pos, aft, g⟩ (.int k (if q < p then q else p)) := by
  intro w; simp [execOp, resolve, invoke, builtin, hk.val hc hx, hk.val hc hy, Builtin.min_, Builtin.min2]
theorem p_max (hk : Knows ok a wk n σ Df) (hc : holds a c) (hx : opvc σ c x = some (.lit (.int k p))) (hy : opvc σ c y = some (.lit (.int k q))) :
    PureOp P a ⟨dst, .call { callee := .builtin .max, args := #[x, y], argTypes := tys }, ty, pos, aft, g⟩ (.int k (if p < q then q else p)) := by
  intro w; simp [execOp, resolve, invoke, builtin, hk.val hc hx, hk.val hc hy, Builtin.max_, Builtin.max2]
end
end Go.Proofs.YtfbkgaandmebaaaGreat.FW
namespace Go.Proofs.YtfbkgaandmebaaaGreat
variable {Df : List Deferred}
open Go.RowKit
set_option linter.unusedVariables false
namespace FW
section
variable {P : Program} {M : Nat → Prop} {w0 : Bs} {w : World} {a : Act} {n : Nat} {I : List It} {σ : St} {c : Ch} {dst : Option Tmp} {ty : TypeId} {pos : String} {aft : Array Edge} {g : Option (Nat × Bool)}
def litsA (σ : St) (c : Ch) : List Operand → Option (List Value)
  | [] => some []
  | x :: r => match opvc σ c x, litsA σ c r with
    | some (.lit v), some vs => some (v :: vs)
    | _, _ => none
theorem litsA_eval (hk : Knows (okM M I) a w n σ Df) (hc : holds a c) : ∀ {ps : List Operand} {vs : List Value}, litsA σ c ps = some vs → ps.map a.eval = vs
  | [], vs, h => by simp only [litsA, Option.some.injEq] at h; subst h; rfl
  | x :: r, vs, h => by
    simp only [litsA] at h
    split at h
    · rename_i v vs' h1 h2
      simp only [Option.some.injEq] at h
      subst h
      simp [hk.val hc h1, litsA_eval hk hc h2]
    · cases h
theorem f_makeFunc {fid : FuncId} {ps : List Operand} {vs : List Value} (hk : S M w0 a w n I σ Df) (hc : holds a c) (hx : litsA σ c ps = some vs) :
    Fun P (okM M I) ⟨dst, .makeFunc (.func fid) #[] ps.toArray, ty, pos, aft, g⟩ a w (.lit (.func (.func fid) #[] vs.toArray)) := by
  refine .inl ⟨_, w, ?_, New.refl w, rep_lit rfl⟩
  have h := litsA_eval hk.kn hc hx
  subst h
  simp [execOp, Instr.makeFunc]
end
end FW
end Go.Proofs.YtfbkgaandmebaaaGreat
namespace Go.Proofs
open Go.Shelf
open Go.RowKit in
open Go.RowKit in
open Go.RowKit in
open Go.RowKit in
open Go.RowKit in
open Go.RowKit in
open Go.RowKit in
open Go.RowKit in
open Go.RowKit in
open Go.RowKit in
open Go.RowKit in
open Go.RowKit in
open Go.RowKit in
open Go.RowKit in
open Go.RowKit in
open Go.RowKit in
def Tryz.lays189_ren : Go.Shelf.Ren := ⟨fun | 189 => 67 | 125 => 90 | 257 => 89 | 128 => 114 | 129 => 115 | 294 => 105 | 295 => 106 | 296 => 107 | 297 => 108 | 298 => 109 | 299 => 110 | 216 => 111 | 300 => 112 | 301 => 113 | 328 => 131 | 329 => 132 | 330 => 133 | 331 => 134 | 332 => 135 | 215 => 136 | 343 => 142 | n => n, fun | 28 => 86 | 3 => 3 | 46 => 110 | 0 => 0 | 51 => 146 | 53 => 27 | 4 => 4 | 183 => 163 | 182 => 162 | 131 => 158 | 5 => 5 | 9 => 9 | 218 => 183 | 222 => 186 | 228 => 190 | 229 => 191 | n => n, fun | n => n⟩
theorem Tryz.lays189 : Go.Proofs.Lays.n189 Tryz.prog Tryz.lays189_ren := {
  mixed := by kernel_rfl
  f125 := Tryz.func90.trans (congrArg some (by kernel_rfl))
  f128 := Tryz.func114.trans (congrArg some (by kernel_rfl))
  f129 := Tryz.func115.trans (congrArg some (by kernel_rfl))
  f189 := Tryz.func67.trans (congrArg some (by kernel_rfl))
  f215 := Tryz.func136.trans (congrArg some (by kernel_rfl))
  f216 := Tryz.func111.trans (congrArg some (by kernel_rfl))
  f257 := Tryz.func89.trans (congrArg some (by kernel_rfl))
  f294 := Tryz.func105.trans (congrArg some (by kernel_rfl))
  f295 := Tryz.func106.trans (congrArg some (by kernel_rfl))
  f296 := Tryz.func107.trans (congrArg some (by kernel_rfl))
  f297 := Tryz.func108.trans (congrArg some (by kernel_rfl))
  f298 := Tryz.func109.trans (congrArg some (by kernel_rfl))
  f299 := Tryz.func110.trans (congrArg some (by kernel_rfl))
  f300 := Tryz.func112.trans (congrArg some (by kernel_rfl))
  f301 := Tryz.func113.trans (congrArg some (by kernel_rfl))
  f328 := Tryz.func131.trans (congrArg some (by kernel_rfl))
  f329 := Tryz.func132.trans (congrArg some (by kernel_rfl))
  f330 := Tryz.func133.trans (congrArg some (by kernel_rfl))
  f331 := Tryz.func134.trans (congrArg some (by kernel_rfl))
  f332 := Tryz.func135.trans (congrArg some (by kernel_rfl))
  f343 := Tryz.func142.trans (congrArg some (by kernel_rfl))
  t0 := Tryz.underlying0
  a0 := Tryz.isAgg0
  z0 := Tryz.sizeOf0
  v0 := Tryz.zeroValue0
  t3 := Tryz.underlying3
  a3 := Tryz.isAgg3
  z3 := Tryz.sizeOf3
  v3 := Tryz.zeroValue3
  t4 := Tryz.underlying4
  a4 := Tryz.isAgg4
  z4 := Tryz.sizeOf4
  v4 := Tryz.zeroValue4
  t5 := Tryz.underlying5
  a5 := Tryz.isAgg5
  z5 := Tryz.sizeOf5
  v5 := Tryz.zeroValue5
  t9 := Tryz.underlying9
  a9 := Tryz.isAgg9
  z9 := Tryz.sizeOf9
  v9 := Tryz.zeroValue9
  t28 := Tryz.underlying86
  a28 := Tryz.isAgg86
  z28 := Tryz.sizeOf86
  v28 := Tryz.zeroValue86
  t46 := Tryz.underlying110
  a46 := Tryz.isAgg110
  z46 := Tryz.sizeOf110
  v46 := Tryz.zeroValue110
  t51 := Tryz.underlying146
  a51 := Tryz.isAgg146
  z51 := Tryz.sizeOf146
  v51 := Tryz.zeroValue146
  t53 := Tryz.underlying27
  a53 := Tryz.isAgg27
  z53 := Tryz.sizeOf27
  v53 := Tryz.zeroValue27
  t131 := Tryz.underlying158
  a131 := Tryz.isAgg158
  z131 := Tryz.sizeOf158
  v131 := Tryz.zeroValue158
  t182 := Tryz.underlying162
  a182 := Tryz.isAgg162
  z182 := Tryz.sizeOf162
  v182 := Tryz.zeroValue162
  t183 := Tryz.underlying163
  a183 := Tryz.isAgg163
  z183 := Tryz.sizeOf163
  v183 := Tryz.zeroValue163
  t218 := Tryz.underlying183
  a218 := Tryz.isAgg183
  z218 := Tryz.sizeOf183
  v218 := Tryz.zeroValue183
  t222 := Tryz.underlying186
  a222 := Tryz.isAgg186
  z222 := Tryz.sizeOf186
  v222 := Tryz.zeroValue186
  t228 := Tryz.underlying190
  a228 := Tryz.isAgg190
  z228 := Tryz.sizeOf190
  v228 := Tryz.zeroValue190
  t229 := Tryz.underlying191
  a229 := Tryz.isAgg191
  z229 := Tryz.sizeOf191
  v229 := Tryz.zeroValue191 }
open Go.Sort Go.RowKit in
theorem Tryz.slices_Sort_int (blk off cap : Nat) (zs : List Int) (w : World) (hH : Holds (Value.int .i64) w blk off zs.toArray) (hblk : blk < w.heap.size) (hsz : zs.length < 4611686018427387904) :
    Calls Tryz.prog 67 #[.slice (some ⟨blk, off, none⟩) zs.length cap] w fun e w' =>
      e = .returned (.tuple #[]) ∧ ∃ n os, w' = grow (putRow (Value.int .i64) (Sort.ahead w n) blk off (zs.mergeSort fun x y => decide (x ≤ y)).toArray) os := Any.slices_Sort_int Tryz.lays189 blk off cap zs w hH hblk hsz
open Go.RowKit Go.Lib in
open Go.RowKit Go.Lib in
def Tryz.lays264_ren : Go.Shelf.Ren := ⟨fun | 264 => 92 | n => n, fun | 53 => 27 | 46 => 110 | n => n, fun | n => n⟩
theorem Tryz.lays264 : Go.Proofs.Lays.n264 Tryz.prog Tryz.lays264_ren := {
  mixed := by kernel_rfl
  f264 := Tryz.func92.trans (congrArg some (by kernel_rfl))
  t46 := Tryz.underlying110
  a46 := Tryz.isAgg110
  z46 := Tryz.sizeOf110
  v46 := Tryz.zeroValue110
  t53 := Tryz.underlying27
  a53 := Tryz.isAgg27
  z53 := Tryz.sizeOf27
  v53 := Tryz.zeroValue27 }
open Go.RowKit Go.Lib in
theorem Tryz.bits_Mul64 (x y : Nat) (hx : x < 18446744073709551616) (hy : y < 18446744073709551616) (w : World) :
    Calls Tryz.prog 92 #[.int .u64 x, .int .u64 y] w fun e w' => e = .returned (.tuple #[.int .u64 ((x * y / 18446744073709551616 : Nat) : Int), .int .u64 ((x * y % 18446744073709551616 : Nat) : Int)]) ∧ w' = w := Any.bits_Mul64 Tryz.lays264 x y hx hy w
open Go.RowKit Go.Lib in
def Tryz.lays105_ren : Go.Shelf.Ren := ⟨fun | 105 => 46 | 212 => 69 | 99 => 70 | 165 => 71 | 166 => 72 | 170 => 73 | 169 => 74 | 263 => 91 | 264 => 92 | 206 => 93 | 240 => 94 | 241 => 95 | 276 => 116 | 277 => 117 | n => n, fun | 9 => 9 | 3 => 3 | 4 => 4 | 20 => 20 | 0 => 0 | 46 => 110 | 109 => 118 | 5 => 5 | 72 => 123 | 76 => 127 | 51 => 146 | 146 => 147 | 53 => 27 | 148 => 149 | 70 => 121 | 37 => 43 | 75 => 126 | 127 => 151 | 164 => 171 | 80 => 129 | n => n, fun | n => n⟩
theorem Tryz.lays105 : Go.Proofs.Lays.n105 Tryz.prog Tryz.lays105_ren := {
  mixed := by kernel_rfl
  f99 := Tryz.func70.trans (congrArg some (by kernel_rfl))
  f105 := Tryz.func46.trans (congrArg some (by kernel_rfl))
  f165 := Tryz.func71.trans (congrArg some (by kernel_rfl))
  f166 := Tryz.func72.trans (congrArg some (by kernel_rfl))
  f169 := Tryz.func74.trans (congrArg some (by kernel_rfl))
  f170 := Tryz.func73.trans (congrArg some (by kernel_rfl))
  f206 := Tryz.func93.trans (congrArg some (by kernel_rfl))
  f212 := Tryz.func69.trans (congrArg some (by kernel_rfl))
  f240 := Tryz.func94.trans (congrArg some (by kernel_rfl))
  f241 := Tryz.func95.trans (congrArg some (by kernel_rfl))
  f263 := Tryz.func91.trans (congrArg some (by kernel_rfl))
  f264 := Tryz.func92.trans (congrArg some (by kernel_rfl))
  f276 := Tryz.func116.trans (congrArg some (by kernel_rfl))
  f277 := Tryz.func117.trans (congrArg some (by kernel_rfl))
  t0 := Tryz.underlying0
  a0 := Tryz.isAgg0
  z0 := Tryz.sizeOf0
  v0 := Tryz.zeroValue0
  t3 := Tryz.underlying3
  a3 := Tryz.isAgg3
  z3 := Tryz.sizeOf3
  v3 := Tryz.zeroValue3
  t4 := Tryz.underlying4
  a4 := Tryz.isAgg4
  z4 := Tryz.sizeOf4
  v4 := Tryz.zeroValue4
  t5 := Tryz.underlying5
  a5 := Tryz.isAgg5
  z5 := Tryz.sizeOf5
  v5 := Tryz.zeroValue5
  t9 := Tryz.underlying9
  a9 := Tryz.isAgg9
  z9 := Tryz.sizeOf9
  v9 := Tryz.zeroValue9
  t20 := Tryz.underlying20
  a20 := Tryz.isAgg20
  z20 := Tryz.sizeOf20
  v20 := Tryz.zeroValue20
  t37 := Tryz.underlying43
  a37 := Tryz.isAgg43
  z37 := Tryz.sizeOf43
  v37 := Tryz.zeroValue43
  t46 := Tryz.underlying110
  a46 := Tryz.isAgg110
  z46 := Tryz.sizeOf110
  v46 := Tryz.zeroValue110
  t51 := Tryz.underlying146
  a51 := Tryz.isAgg146
  z51 := Tryz.sizeOf146
  v51 := Tryz.zeroValue146
  t53 := Tryz.underlying27
  a53 := Tryz.isAgg27
  z53 := Tryz.sizeOf27
  v53 := Tryz.zeroValue27
  t70 := Tryz.underlying121
  a70 := Tryz.isAgg121
  z70 := Tryz.sizeOf121
  v70 := Tryz.zeroValue121
  t72 := Tryz.underlying123
  a72 := Tryz.isAgg123
  z72 := Tryz.sizeOf123
  v72 := Tryz.zeroValue123
  t75 := Tryz.underlying126
  a75 := Tryz.isAgg126
  z75 := Tryz.sizeOf126
  v75 := Tryz.zeroValue126
  t76 := Tryz.underlying127
  a76 := Tryz.isAgg127
  z76 := Tryz.sizeOf127
  v76 := Tryz.zeroValue127
  t109 := Tryz.underlying118
  a109 := Tryz.isAgg118
  z109 := Tryz.sizeOf118
  v109 := Tryz.zeroValue118
  t127 := Tryz.underlying151
  a127 := Tryz.isAgg151
  z127 := Tryz.sizeOf151
  v127 := Tryz.zeroValue151
  t146 := Tryz.underlying147
  a146 := Tryz.isAgg147
  z146 := Tryz.sizeOf147
  v146 := Tryz.zeroValue147
  t148 := Tryz.underlying149
  a148 := Tryz.isAgg149
  z148 := Tryz.sizeOf149
  v148 := Tryz.zeroValue149
  t164 := Tryz.underlying171
  a164 := Tryz.isAgg171
  z164 := Tryz.sizeOf171
  v164 := Tryz.zeroValue171 }
theorem Tryz.Builder_Extra_105 : Builder.Extra Tryz.prog Tryz.lays105_ren := {
  sizeBuilder := by kernel_rfl
  liesBuilder := by kernel_rfl
  t5 := Tryz.underlying5
  a5 := Tryz.isAgg5
  z5 := Tryz.sizeOf5
  v5 := Tryz.zeroValue5
  infoByte := by kernel_rfl
  cellsByte := by kernel_rfl
  sizeByte := by kernel_rfl
  neB5 := by decide }
open Go.RowKit Go.Lib in
open Go.RowKit Go.Lib in
open Go.RowKit Go.Lib in
open Go.RowKit Go.Lib in
open Go.RowKit Go.Lib in
open Go.RowKit Go.Lib in
open Go.RowKit Go.Lib in
theorem Tryz.strings_Repeat (s : ByteArray) (c : Nat) (w : World) (hc : c ≤ 9223372036854775807) (hlen : s.size * c ≤ 140737488355328) :
    Calls Tryz.prog 46 #[.string s, .int .i64 c] w fun e w' => e = .returned (.string ⟨(Lib.repeatL s.data.toList c).toArray⟩) ∧ Below w.heap.size w w' := Any.strings_Repeat Tryz.lays105 Tryz.Builder_Extra_105 s c w hc hlen
open Go.RowKit Go.Lib in
open Go.RowKit Go.Lib in
open Go.RowKit Go.Sort in
theorem Tryz.slices_Sort_int_none (p : Option Addr) (cap : Nat) (w : World) :
    Calls Tryz.prog 67 #[.slice p 0 cap] w fun e w' => e = .returned (.tuple #[]) ∧ w' = w := Any.slices_Sort_int_none Tryz.lays189 p cap w
end Go.Proofs
namespace Go.Proofs.YtfbkgaandmebaaaGreat
open Go.RowKit
theorem bits_Mul64.ok (v0 v1 : Int) (r : Int × Int) (h : bits_Mul64.f v0 v1 = some r) : FW.Ok Go.Proofs.Tryz.prog 92 [.lit (.int .u64 v0), .lit (.int .u64 v1)] (.tup [.lit (.int .u64 r.1), .lit (.int .u64 r.2)]) := by
  obtain ⟨hv, h⟩ := FW.chk h
  obtain rfl := Option.some.inj h
  obtain ⟨x, rfl⟩ := Int.eq_ofNat_of_zero_le hv.1.1
  obtain ⟨y, rfl⟩ := Int.eq_ofNat_of_zero_le hv.2.1
  exact FW.ok_lit (us := [.int .u64 (x : Int), .int .u64 (y : Int)]) (Tryz.bits_Mul64 x y (by omega) (by omega)) fun _ _ => by simp [FW.Rep, FW.RepL]
end Go.Proofs.YtfbkgaandmebaaaGreat
namespace Go.Proofs.YtfbkgaandmebaaaGreat
variable {Df : List Deferred}
open Go.RowKit
set_option linter.unusedVariables false
def strings_Repeat.f (s : List UInt8) (c : Int) : Option (List UInt8) := if 0 ≤ c ∧ c ≤ 9223372036854775807 ∧ (s.length : Int) * c ≤ 140737488355328 then some (Lib.repeatL s c.toNat) else none
theorem strings_Repeat.ok (s : List UInt8) (c : Int) (r : List UInt8) (h : strings_Repeat.f s c = some r) : FW.Ok Go.Proofs.Tryz.prog 46 [.lit (.string (FW.B s)), .lit (.int .i64 c)] (.lit (.string (FW.B r))) := by
  obtain ⟨hc, h⟩ := FW.chk h
  obtain rfl := Option.some.inj h
  obtain ⟨n, rfl⟩ := Int.eq_ofNat_of_zero_le hc.1
  intro M w vs hM hL
  have hvs : vs = #[.string (FW.B s), .int .i64 (n : Int)] := by
    have := FW.repL_lits_eq (us := [.string (FW.B s), .int .i64 (n : Int)]) hL
    exact Array.ext' this
  subst hvs
  have h1 : (FW.B s).size * n ≤ 140737488355328 := by
    have := hc.2.2
    rw [FW.B_size]
    omega
  refine (Tryz.strings_Repeat (FW.B s) n w (by omega) h1).mono ?_
  rintro e w' ⟨rfl, hb⟩
  exact ⟨_, rfl, FW.New.of_below hb, FW.rep_lit rfl⟩
end Go.Proofs.YtfbkgaandmebaaaGreat
namespace Go.Proofs
open Go.Shelf
def Tryz.keysA_ren : Go.Shelf.Ren := ⟨fun | 7 => 45 | 10 => 68 | n => n, fun | 23 => 73 | 26 => 3 | 3 => 9 | 28 => 89 | 0 => 0 | 27 => 88 | 33 => 117 | 4 => 4 | n => n, fun | n => n⟩
theorem Tryz.keysA : Go.Proofs.SlLaysZI.n7 Tryz.prog Tryz.keysA_ren := {
  mixed := by kernel_rfl
  f7 := ⟨Tryz.f45.name, by decide, Tryz.func45.trans (congrArg some (by kernel_rfl))⟩
  f10 := ⟨Tryz.f68.name, by decide, Tryz.func68.trans (congrArg some (by kernel_rfl))⟩
  t0 := Tryz.underlying0
  a0 := Tryz.isAgg0
  z0 := Tryz.sizeOf0
  v0 := Tryz.zeroValue0
  t4 := Tryz.underlying4
  a4 := Tryz.isAgg4
  z4 := Tryz.sizeOf4
  v4 := Tryz.zeroValue4
  t23 := Tryz.underlying73
  a23 := Tryz.isAgg73
  z23 := Tryz.sizeOf73
  v23 := Tryz.zeroValue73
  t26 := Tryz.underlying3
  a26 := Tryz.isAgg3
  z26 := Tryz.sizeOf3
  v26 := Tryz.zeroValue3
  t27 := Tryz.underlying88
  a27 := Tryz.isAgg88
  z27 := Tryz.sizeOf88
  v27 := Tryz.zeroValue88
  t28 := Tryz.underlying89
  a28 := Tryz.isAgg89
  z28 := Tryz.sizeOf89
  v28 := Tryz.zeroValue89
  t33 := Tryz.underlying117
  a33 := Tryz.isAgg117
  z33 := Tryz.sizeOf117
  v33 := Tryz.zeroValue117 }
def Tryz.sortedA_ren : Go.Shelf.Ren := ⟨fun | 6 => 44 | 8 => 66 | 9 => 67 | 11 => 88 | 13 => 90 | 12 => 89 | 23 => 114 | 24 => 115 | 14 => 105 | 15 => 106 | 16 => 107 | 17 => 108 | 18 => 109 | 19 => 110 | 20 => 111 | 21 => 112 | 22 => 113 | 25 => 131 | 26 => 132 | 27 => 133 | 28 => 134 | 29 => 135 | 30 => 136 | 31 => 142 | n => n, fun | 26 => 3 | 28 => 89 | 24 => 86 | 0 => 0 | 3 => 3 | 37 => 110 | 48 => 146 | 50 => 27 | 4 => 4 | 40 => 163 | 39 => 162 | 45 => 158 | 5 => 5 | 9 => 9 | 51 => 183 | 55 => 186 | 57 => 190 | 58 => 191 | 33 => 117 | n => n, fun | n => n⟩
theorem Tryz.sortedA : Go.Proofs.SlLaysZI.n6 Tryz.prog Tryz.sortedA_ren := {
  mixed := by kernel_rfl
  f6 := ⟨Tryz.f44.name, by decide, Tryz.func44.trans (congrArg some (by kernel_rfl))⟩
  f8 := ⟨Tryz.f66.name, by decide, Tryz.func66.trans (congrArg some (by kernel_rfl))⟩
  f11 := ⟨Tryz.f88.name, by decide, Tryz.func88.trans (congrArg some (by kernel_rfl))⟩
  t0 := Tryz.underlying0
  a0 := Tryz.isAgg0
  z0 := Tryz.sizeOf0
  v0 := Tryz.zeroValue0
  t24 := Tryz.underlying86
  a24 := Tryz.isAgg86
  z24 := Tryz.sizeOf86
  v24 := Tryz.zeroValue86
  t26 := Tryz.underlying3
  a26 := Tryz.isAgg3
  z26 := Tryz.sizeOf3
  v26 := Tryz.zeroValue3
  t28 := Tryz.underlying89
  a28 := Tryz.isAgg89
  z28 := Tryz.sizeOf89
  v28 := Tryz.zeroValue89
  i26 := by kernel_rfl }
def Tryz.sortA_ren : Go.Shelf.Ren := ⟨fun | 5 => 67 | 8 => 90 | 7 => 89 | 19 => 114 | 20 => 115 | 10 => 105 | 11 => 106 | 12 => 107 | 13 => 108 | 14 => 109 | 15 => 110 | 16 => 111 | 17 => 112 | 18 => 113 | 30 => 131 | 31 => 132 | 32 => 133 | 33 => 134 | 34 => 135 | 35 => 136 | 40 => 142 | n => n, fun | 23 => 86 | 25 => 3 | 3 => 3 | 32 => 110 | 22 => 86 | 0 => 0 | 44 => 146 | 46 => 27 | 4 => 4 | 36 => 163 | 35 => 162 | 41 => 158 | 5 => 5 | 9 => 9 | 53 => 183 | 57 => 186 | 63 => 190 | 64 => 191 | n => n, fun | n => n⟩
theorem Tryz.sortA : Go.Proofs.SlLaysM.n5 Tryz.prog Tryz.sortA_ren := {
  mixed := by kernel_rfl
  f5 := ⟨Tryz.f67.name, by decide, Tryz.func67.trans (congrArg some (by kernel_rfl))⟩
  f7 := ⟨Tryz.f89.name, by decide, Tryz.func89.trans (congrArg some (by kernel_rfl))⟩
  f8 := Tryz.func90.trans (congrArg some (by kernel_rfl))
  f10 := ⟨Tryz.f105.name, by decide, Tryz.func105.trans (congrArg some (by kernel_rfl))⟩
  f11 := ⟨Tryz.f106.name, by decide, Tryz.func106.trans (congrArg some (by kernel_rfl))⟩
  f12 := ⟨Tryz.f107.name, by decide, Tryz.func107.trans (congrArg some (by kernel_rfl))⟩
  f13 := ⟨Tryz.f108.name, by decide, Tryz.func108.trans (congrArg some (by kernel_rfl))⟩
  f14 := ⟨Tryz.f109.name, by decide, Tryz.func109.trans (congrArg some (by kernel_rfl))⟩
  f15 := ⟨Tryz.f110.name, by decide, Tryz.func110.trans (congrArg some (by kernel_rfl))⟩
  f16 := ⟨Tryz.f111.name, by decide, Tryz.func111.trans (congrArg some (by kernel_rfl))⟩
  f17 := ⟨Tryz.f112.name, by decide, Tryz.func112.trans (congrArg some (by kernel_rfl))⟩
  f18 := ⟨Tryz.f113.name, by decide, Tryz.func113.trans (congrArg some (by kernel_rfl))⟩
  f19 := Tryz.func114.trans (congrArg some (by kernel_rfl))
  f20 := Tryz.func115.trans (congrArg some (by kernel_rfl))
  f30 := ⟨Tryz.f131.name, by decide, Tryz.func131.trans (congrArg some (by kernel_rfl))⟩
  f31 := Tryz.func132.trans (congrArg some (by kernel_rfl))
  f32 := Tryz.func133.trans (congrArg some (by kernel_rfl))
  f33 := ⟨Tryz.f134.name, by decide, Tryz.func134.trans (congrArg some (by kernel_rfl))⟩
  f34 := ⟨Tryz.f135.name, by decide, Tryz.func135.trans (congrArg some (by kernel_rfl))⟩
  f35 := ⟨Tryz.f136.name, by decide, Tryz.func136.trans (congrArg some (by kernel_rfl))⟩
  f40 := ⟨Tryz.f142.name, by decide, Tryz.func142.trans (congrArg some (by kernel_rfl))⟩
  t0 := Tryz.underlying0
  a0 := Tryz.isAgg0
  z0 := Tryz.sizeOf0
  v0 := Tryz.zeroValue0
  t3 := Tryz.underlying3
  a3 := Tryz.isAgg3
  z3 := Tryz.sizeOf3
  v3 := Tryz.zeroValue3
  t4 := Tryz.underlying4
  a4 := Tryz.isAgg4
  z4 := Tryz.sizeOf4
  v4 := Tryz.zeroValue4
  t5 := Tryz.underlying5
  a5 := Tryz.isAgg5
  z5 := Tryz.sizeOf5
  v5 := Tryz.zeroValue5
  t9 := Tryz.underlying9
  a9 := Tryz.isAgg9
  z9 := Tryz.sizeOf9
  v9 := Tryz.zeroValue9
  t22 := Tryz.underlying86
  a22 := Tryz.isAgg86
  z22 := Tryz.sizeOf86
  v22 := Tryz.zeroValue86
  t23 := Tryz.underlying86
  a23 := Tryz.isAgg86
  z23 := Tryz.sizeOf86
  v23 := Tryz.zeroValue86
  t25 := Tryz.underlying3
  a25 := Tryz.isAgg3
  z25 := Tryz.sizeOf3
  v25 := Tryz.zeroValue3
  t32 := Tryz.underlying110
  a32 := Tryz.isAgg110
  z32 := Tryz.sizeOf110
  v32 := Tryz.zeroValue110
  t35 := Tryz.underlying162
  a35 := Tryz.isAgg162
  z35 := Tryz.sizeOf162
  v35 := Tryz.zeroValue162
  t36 := Tryz.underlying163
  a36 := Tryz.isAgg163
  z36 := Tryz.sizeOf163
  v36 := Tryz.zeroValue163
  t41 := Tryz.underlying158
  a41 := Tryz.isAgg158
  z41 := Tryz.sizeOf158
  v41 := Tryz.zeroValue158
  t44 := Tryz.underlying146
  a44 := Tryz.isAgg146
  z44 := Tryz.sizeOf146
  v44 := Tryz.zeroValue146
  t46 := Tryz.underlying27
  a46 := Tryz.isAgg27
  z46 := Tryz.sizeOf27
  v46 := Tryz.zeroValue27
  t53 := Tryz.underlying183
  a53 := Tryz.isAgg183
  z53 := Tryz.sizeOf183
  v53 := Tryz.zeroValue183
  t57 := Tryz.underlying186
  a57 := Tryz.isAgg186
  z57 := Tryz.sizeOf186
  v57 := Tryz.zeroValue186
  t63 := Tryz.underlying190
  a63 := Tryz.isAgg190
  z63 := Tryz.sizeOf190
  v63 := Tryz.zeroValue190
  t64 := Tryz.underlying191
  a64 := Tryz.isAgg191
  z64 := Tryz.sizeOf191
  v64 := Tryz.zeroValue191 }
end Go.Proofs
namespace Go.Proofs.YtfbkgaandmebaaaGreat
variable {Df : List Deferred}
open Go.RowKit Go.Maps Go.Sort Go.Shelf Go.MapKept
set_option linter.unusedVariables false
set_option linter.unusedSectionVars false
theorem sortsA (m : Nat) : AnyZI.SortsIn Tryz.prog Tryz.sortedA_ren Fence.wide m :=
  ⟨fun blk off cap ss W hH hblk hsz => callsIn_wide.2 (AnyM.slices_Sort_int Tryz.sortA blk off cap ss W hH hblk hsz),
   fun p cap W => callsIn_wide.2 (AnyM.slices_Sort_int_none Tryz.sortA p cap W)⟩
namespace FW
def in64 (x : Int) : Bool := decide (-9223372036854775808 ≤ x) && decide (x ≤ 9223372036854775807)
def keysOk {ν : Type} (m : List (Int × ν)) : Bool := (m.all fun p => in64 p.1) && decide (m.length ≤ 1000000000000)
def anyR {H : Type} (_ : Value) : Option (DataW H × List MemPlace) := some (.lit (.bool true), [])
theorem keyOf_in {P : Program} {k : TypeId} (hk : P.underlying k = some (.int .i64)) {x : Int} (hx : in64 x = true) : keyOf P k (.int .i64 x) = some (.int .i64 x) := by
  simp only [in64, Bool.and_eq_true, decide_eq_true_eq] at hx
  have hw : (Lit.int .i64 x).wf = true := by
    simp only [Lit.wf, Bool.and_eq_true, decide_eq_true_eq]
    exact hx
  simp [keyOf, hk, mapKey, hw]
section
variable {ν : Type} {ev : ν → Value} {b Bm : Nat} {m : List (Int × ν)} {W : World} {es : Array MapEntry} {clock : Nat}
theorem ents_key (h : MapP (.int .i64) (Value.int .i64) ev b m W es clock) {x : MapEntry} (hx : x ∈ es.toList) : ∃ p ∈ m, x.key = .int .i64 p.1 := by
  have : (x.key, x.val) ∈ es.toList.map fun e => (e.key, e.val) := List.mem_map.2 ⟨x, hx, rfl⟩
  rw [h.ents] at this
  obtain ⟨p, hp, he⟩ := List.mem_map.1 this
  injection he with h1 _
  exact ⟨p, hp, h1.symm⟩
theorem reads_key {H : Type} (h : MapP (.int .i64) (Value.int .i64) ev b m W es clock) (hk : keysOk m = true) {x : MapEntry} (hx : x ∈ es.toList) {p : Int × ν} (hp : p ∈ m) (he : x.key = .int .i64 p.1) :
    WideElems.rd (H := H) Tryz.prog 3 anyR x = some (.int .i64 p.1, .lit (.bool true)) := by
  simp only [keysOk, Bool.and_eq_true, List.all_eq_true] at hk
  simp [WideElems.rd, he, keyOf_in Tryz.underlying3 (hk.1 p hp), anyR]
theorem fitM {H : Type} (h : MapP (.int .i64) (Value.int .i64) ev b m W es clock) (hk : keysOk m = true) : WideElems.Fit (H := H) Tryz.prog 3 anyR es clock := by
  refine ⟨?_, h.stamped, fun x hx => ?_⟩
  · rw [h.len]
    simp only [keysOk, Bool.and_eq_true, decide_eq_true_eq] at hk
    have := hk.2
    unfold maxLen; omega
  · obtain ⟨p, hp, he⟩ := ents_key h hx
    exact ⟨_, reads_key h hk hx hp he⟩
theorem keysPerm {H : Type} (h : MapP (.int .i64) (Value.int .i64) ev b m W es clock) (hk : keysOk m = true) : (intKeys (.map ((es.toList.map (WideElems.rg (H := H) Tryz.prog 3 anyR)).foldr DataW.insert []))).Perm (m.map (·.1)) := by
  show (List.map _ _).Perm _
  have h1 := (WideShapes.sorted_perm (es.toList.map (WideElems.rg (H := H) Tryz.prog 3 anyR))).map fun p => Go.intOf p.1
  refine h1.trans ?_
  have h2 : ((es.toList.map (WideElems.rg (H := H) Tryz.prog 3 anyR)).map fun p => Go.intOf p.1) = (es.toList.map (·.key)).map fun v => match v with | .int _ n => n | _ => 0 := by
    rw [List.map_map, List.map_map]
    refine List.map_congr_left fun x hx => ?_
    obtain ⟨p, hp, he⟩ := ents_key h hx
    have hr := reads_key (H := H) h hk hx hp he
    simp [WideElems.rg, hr, he, Go.intOf]
  have h3 : es.toList.map (·.key) = m.map fun p => Value.int .i64 p.1 := by
    have := congrArg (List.map Prod.fst) h.ents
    simpa [Function.comp_def] using this
  rw [h2, h3, List.map_map]
  exact List.Perm.of_eq (List.map_congr_left fun p _ => rfl)
theorem sortedKeys (h : MapP (.int .i64) (Value.int .i64) ev b m W es clock) (hBm : Bm < W.heap.size) (hm : W.cell? ⟨Bm, 0, none⟩ = some (.map (some b))) (hk : keysOk m = true) :
    Calls Tryz.prog 44 #[.func (.func 68) #[] #[.pointer (some ⟨Bm, 0, none⟩)]] W fun e w' => ∃ v, e = .returned v ∧ New W w' ∧ ∀ ok : Nat → Prop, (∀ k, W.heap.size ≤ k → ok k) → Rep ok w' (.row ((sortK m).map fun x => [.lit (.int .i64 x)])) v := by
  refine (callsIn_wide (n := 5)).1 ?_
  have hfit := fitM (H := Nat) h hk
  have hown : W.ownsMap Tryz.prog 3 anyR b es.size (.map ((es.toList.map (WideElems.rg (H := Nat) Tryz.prog 3 anyR)).foldr DataW.insert [])) := World.ownsMap_of_fit h.at_ hfit (fun _ _ _ h => h)
  have hlen : Maps.size (H := Nat) (.map ((es.toList.map (WideElems.rg (H := Nat) Tryz.prog 3 anyR)).foldr DataW.insert [])) = m.length := by
    rw [size_eq, length_read, h.len]
  have hml : m.length ≤ 1000000000000 := by
    simp only [keysOk, Bool.and_eq_true, decide_eq_true_eq] at hk
    exact hk.2
  have hseq : SeqGives Fence.wide 2 Tryz.prog 68 #[.pointer (some ⟨Bm, 0, none⟩)] encZ (fun ss => ss.Perm (intKeys (.map ((es.toList.map (WideElems.rg (H := Nat) Tryz.prog 3 anyR)).foldr DataW.insert [])))) (Maps.size (H := Nat) (.map ((es.toList.map (WideElems.rg (H := Nat) Tryz.prog 3 anyR)).foldr DataW.insert []))) W :=
    AnyZI.keys_gives (ρ := Tryz.keysA_ren) { Tryz.keysA with } Fence.wide _ trivial rfl (by omega) Bm b es.size _ _ hBm hm hown
  have cS := AnyZI.sorted_in Tryz.sortedA Fence.wide 5 trivial trivial trivial trivial rfl (by omega) (sortsA _) (enters_of Tryz.func67 (by kernel_rfl) rfl) 68 #[.pointer (some ⟨Bm, 0, none⟩)] trivial (enters_of Tryz.func68 (by kernel_rfl) rfl) _ _ (by rw [hlen]; unfold maxLen; omega) (by rw [hlen]; omega) _ hseq
  change CallsIn _ _ Tryz.prog 44 _ _ _ at cS
  refine cS.mono ?_
  rintro e w' ⟨v, ss, rfl, hS, hrow, hnil, hb⟩
  refine ⟨v, rfl, New.of_below hb, fun ok hok => ?_⟩
  have hperm : ss.Perm (m.map (·.1)) := hS.trans (keysPerm h hk)
  have hsort : ss.mergeSort (fun x y => decide (x ≤ y)) = sortK m := mergeSort_of_perm_i hperm
  rw [hsort] at hrow
  have hsl : (sortK m).length = ss.length := by rw [← hsort]; simp
  simp only [Rep, List.length_map]
  rcases hrow.2 with ⟨hv, hn⟩ | ⟨g, cap, cur, hv, hg, hh, hle, hcm, hcs, htk⟩
  · refine ⟨none, 0, by rw [hv, hsl, hn], by rw [hsl, hn]; exact Nat.le_refl _, .inl ?_⟩
    have : (sortK m).length = 0 := hsl.trans hn
    rw [List.eq_nil_of_length_eq_zero this]; rfl
  · refine ⟨some ⟨g, 0, none⟩, cap, by rw [hv, hsl], by rw [hsl]; exact hle, .inr ⟨g, 0, cur, _, _, rfl, hok g hg, hh, ?_⟩⟩
    have h1 := repR_one (ok := ok) (w := w') (fun x => Value.int .i64 x) (sortK m) (cur.toList.drop (ss.length * 1))
    have h2 : (sortK m).map (fun x => Value.int .i64 x) ++ cur.toList.drop (ss.length * 1) = cur.toList := by
      have h3 : cur.toList.take (ss.length * 1) = (sortK m).map encZ := htk
      rw [← h3, List.take_append_drop]
    rw [h2] at h1
    simpa using h1
end
section
variable {M : Nat → Prop} {w0 : Bs} {w : World} {a : Act} {n : Nat} {I : List It} {σ : St} {ty : TypeId} {pos : String} {aft : Array Edge} {x : Operand} {ops : Array Oper} {Q : Exit → Act → World → Prop} {rest : List Oper} {d j i : Nat} {tys : Array TypeId}
  {ν : Type} {ev : ν → Value} {r Bm : Nat} {m : List (Int × ν)} {R : List Int → List (List AV)}
theorem l_keysI (hk : S M w0 a w n I σ Df) (hn : Nat.blt d n = true) (hf : chFree σ d = true) (hx : opvc σ [] x = some (.lit (.map (some r))))
    (h : ∀ b a' w', S M w0 a' w' n (blk b 73 [.lit (.map (some r))] :: I) ((d, [], .lit (.func (.func 68) #[] #[.pointer (some ⟨b, 0, none⟩)])) :: σ) Df → wpList Tryz.prog ops Q rest a' w') :
    wpList Tryz.prog ops Q (⟨some d, .call { callee := .value (.func 45), args := #[x], argTypes := tys }, ty, pos, aft, none⟩ :: rest) a w := by
  have hc : Calls Tryz.prog 45 #[.map (some r)] w fun e w' => e = .returned (.func (.func 68) #[] #[.pointer (some ⟨w.heap.size, 0, none⟩)]) ∧ w' = w.alloc (.cells #[.map (some r)] 73) :=
    (callsIn_wide (n := 5)).1 (AnyZI.keys_in Tryz.keysA Fence.wide 5 trivial rfl (some r) w)
  refine leffcall (R := fun v w' => v = .func (.func 68) #[] #[.pointer (some ⟨w.heap.size, 0, none⟩)] ∧ w' = w.alloc (.cells #[.map (some r)] 73)) hk rfl rfl hn hf (run_call (f := .func 45) rfl (by simp [hk.kn.val (holds_nil a) hx]) Tryz.func45 (by kernel_rfl) (by kernel_rfl)) (hc.mono fun e w' ⟨he, hw⟩ => ⟨_, he, rfl, hw⟩) ?_
  rintro v w' ⟨rfl, rfl⟩
  have hfoot : ∀ k, (blk w.heap.size 73 [.lit (.map (some r))]).foot k → w.heap.size ≤ k ∧ k < (w.alloc (.cells #[.map (some r)] 73)).heap.size := by
    intro k hk'
    have hk' : k = w.heap.size := hk'
    subst hk'
    simp
  exact ⟨_, _, hk.push (it' := blk w.heap.size 73 [.lit (.map (some r))]) (New.alloc w _) ⟨#[.map (some r)], heap_alloc_new w _, repL_cons (rep_lit rfl) repL_nil⟩ hfoot, rep_lit rfl, fun a' h' => h _ a' _ h'⟩
theorem l_sortedI (hR : ∀ l, R l = l.map fun x => [.lit (.int .i64 x)]) (hk : S M w0 a w n I σ Df) (hn : Nat.blt d n = true) (hf : chFree σ d = true) (hj : I[j]? = some (mapI (.int .i64) (Value.int .i64) ev r m)) (hi : I[i]? = some (blk Bm 73 [.lit (.map (some r))]))
    (hx : opvc σ [] x = some (.lit (.func (.func 68) #[] #[.pointer (some ⟨Bm, 0, none⟩)]))) (hc : keysOk m = true)
    (h : ∀ a' w', S M w0 a' w' n I ((d, [], .row (R (sortK m))) :: σ) Df → wpList Tryz.prog ops Q rest a' w') :
    wpList Tryz.prog ops Q (⟨some d, .call { callee := .value (.func 44), args := #[x], argTypes := tys }, ty, pos, aft, none⟩ :: rest) a w := by
  obtain ⟨es, clock, hm⟩ := hk.own.get hj
  obtain ⟨arr, hh, hL⟩ := hk.own.get hi
  have hcell : w.cell? ⟨Bm, 0, none⟩ = some (.map (some r)) := by
    obtain ⟨v, hv, hr⟩ := hL.get (i := 0) rfl
    simp only [Rep] at hr
    subst hr
    rw [cell_of_row w Bm 0 arr _ (0, 0) hh]; simpa using hv
  refine leffcall (R := fun v w' => New w w' ∧ ∀ ok : Nat → Prop, (∀ k, w.heap.size ≤ k → ok k) → Rep ok w' (.row ((sortK m).map fun x => [.lit (.int .i64 x)])) v) hk rfl rfl hn hf (run_call (f := .func 44) rfl (by simp [hk.kn.val (holds_nil a) hx]) Tryz.func44 (by kernel_rfl) (by kernel_rfl)) ((sortedKeys hm (heap_lt hh) hcell hc).mono fun e w' ⟨v, he, h1, h2⟩ => ⟨v, he, h1, h2⟩) ?_
  rintro v w' ⟨hw, hr⟩
  refine ⟨I, .row (R (sortK m)), hk.fresh hw, ?_, fun a' h' => h a' w' h'⟩
  rw [hR]
  refine hr _ fun k hk' => ?_
  false_or_by_contra
  rename_i hn'
  exact absurd (hk.own.bound k hn') (by omega)
end
end FW
end Go.Proofs.YtfbkgaandmebaaaGreat
namespace Go.Proofs.YtfbkgaandmebaaaGreat.FW
variable {Df : List Deferred}
open Go.RowKit
set_option linter.unusedVariables false
section
variable {P : Program} {M : Nat → Prop} {w0 : Bs} {w w' : World} {a : Act} {n : Nat} {I I' : List It} {σ : St} {it : It} {j : Nat}
variable {c : Ch} {dst : Option Tmp} {ty : TypeId} {pos : String} {aft : Array Edge} {ops : Array Oper} {Q : Exit → Act → World → Prop} {rest : List Oper} {d : Nat} {x y : Operand} {g : Option (Nat × Bool)}
variable {α : Type} {f : α → List AV} {l : List α}
theorem flat_one (hsz : ∀ x, (f x).length = 1) : ∀ l : List α, (l.map f).flatten.length = l.length
  | [] => rfl
  | x :: l => by rw [List.map_cons, List.flatten_cons, List.length_append, hsz, flat_one hsz l, List.length_cons, Nat.add_comm]
theorem l_allocArr {t : TypeId} {N : Nat} {z : Value} {z0 : α} {zs : List AV} (hsz : ∀ x, (f x).length = 1) (hk : S M w0 a w n I σ Df) (hn : Nat.blt d n = true) (hf : chFree σ d = true) (hz : (P.info? t).bind (·.zero) = some z) (hzs : zeroA [] z.cells.toList = zs) (hzl : zs = ((List.replicate N z0).map f).flatten) (hN : N ≤ 1000)
    (h : ∀ b a' w', S M w0 a' w' n (orow (some ⟨b, 0, none⟩) N t 1 f (List.replicate N z0) :: I) ((d, [], .lit (.pointer (some ⟨b, 0, none⟩))) :: σ) Df → wpList P ops Q rest a' w') :
    wpList P ops Q (⟨some d, .alloc t, ty, pos, aft, none⟩ :: rest) a w := by
  refine l_alloc [] hk hn hf hz hzs fun b a' w' hk' => h b a' w' ?_
  refine hk'.conv (j := 0) (it := blk b t zs) rfl (fun ok hg hP => ?_) (fun k hk => ?_)
  · obtain ⟨arr, h1, h2⟩ := hP
    have hl : arr.toList.length = N := by rw [h2.length, hzl, flat_one hsz]; simp
    refine ⟨hsz, arr.toList, ⟨by simp [hl], .inr ⟨b, N, arr, by simp, Nat.zero_le _, h1, by simp, by unfold maxLen; omega, by simpa using hl, ?_⟩⟩, ?_⟩
    · rw [List.length_replicate, Nat.mul_one, ← hl, List.take_length]
    · rw [← hzl]; exact RepL.go hg _ _ h2
  · have hk0 : Value.ownBlock (.slice (some ⟨b, 0, none⟩) (List.replicate N z0).length N) = some k := hk
    simp only [Value.ownBlock, Option.some.injEq] at hk0
    exact hk0.symm
theorem f_idxArr {t e e' : TypeId} {N b : Nat} {k : IntKind} {i : Int} (hk : S M w0 a w n I σ Df) (hc : holds a c) (hj : I[j]? = some (orow (some ⟨b, 0, none⟩) N e' 1 f l)) (hx : opvc σ c x = some (.lit (.pointer (some ⟨b, 0, none⟩)))) (hy : opvc σ c y = some (.lit (.int k i))) (hu : P.underlying t = some (.array N e)) (hs : (P.info? e).map (·.size) = some 1) (hi : asmP σ c (0 ≤ i ∧ i < (l.length : Int))) :
    Fun P (okM M I) ⟨dst, .indexAddr t x y, ty, pos, aft, g⟩ a w (elA (some ⟨b, 0, none⟩) 1 i) := by
  have hi := asm_out hk.kn hc hi
  have hN : i < (N : Int) := by
    obtain ⟨_, vals, hown, _⟩ := hk.own.get hj
    rcases hown.2 with ⟨hv, _⟩ | ⟨gb, cp, cur, hv, _, _, hle, _⟩
    · cases hv
    · injection hv with _ _ h5
      omega
  obtain ⟨inf, hinf, hs'⟩ := Option.map_eq_some_iff.1 hs
  refine .inl ⟨.pointer (some ⟨b, i.toNat * 1, none⟩), w, ?_, New.refl w, rep_lit rfl⟩
  simp [execOp, hk.kn.val hc hx, hk.kn.val hc hy, Instr.indexAt, Instr.sureAddr, asIntOf, run_underlying hu, sizeOf, typeInfo, hinf, hs', hi.1, hN, add_addr]
theorem f_sliceArr {t e : TypeId} {N b : Nat} (hk : S M w0 a w n I σ Df) (hc : holds a c) (hx : opvc σ c x = some (.lit (.pointer (some ⟨b, 0, none⟩)))) (hu : P.underlying t = some (.array N e)) (hs : (P.info? e).map (·.size) = some 1) (hl : l.length = N) :
    Fun P (okM M I) ⟨dst, .slice t x none none none, ty, pos, aft, g⟩ a w (.lit (.slice (some ⟨b, 0, none⟩) l.length N)) := by
  rw [hl]
  obtain ⟨inf, hinf, hs'⟩ := Option.map_eq_some_iff.1 hs
  refine .inl ⟨.slice (some ⟨b, 0, none⟩) N N, w, ?_, New.refl w, rep_lit rfl⟩
  simp [execOp, hk.kn.val hc hx, Instr.sliceAt, Instr.sureAddr, Instr.sliceBounds, run_underlying hu, sizeOf, typeInfo, hinf, add_addr]
theorem f_toBarr {s t e0 e : TypeId} {sz cap : Nat} {l : List Int} {ad : Option Addr} {f : Int → List AV} (hf : f = fun x => [.lit (.int .u8 x)]) (hk : S M w0 a w n I σ Df) (hc : holds a c) (hj : I[j]? = some (orow ad cap e0 sz f l)) (hx : opvc σ c x = some (.lit (.slice ad l.length cap))) (hs : P.underlying s = some (.slice e)) (he : P.underlying e = some (.int .u8)) (ht : P.underlying t = some .string) :
    Fun P (okM M I) ⟨dst, .convert s t x, ty, pos, aft, g⟩ a w (.lit (.string (B (toB l)))) := by
  subst hf
  have hr : Rep (fun _ => True) w (.row (l.map fun x => [.lit (.int .u8 x)])) (.slice ad l.length cap) := by
    refine orow_rep ((orow ad cap e0 sz (fun x => [.lit (.int .u8 x)]) l).stable (ok := okM M I) (ok' := fun _ => True) (w := w) (fun b _ _ => ⟨trivial, rfl⟩) (Nat.le_refl _) (fun k hk' => (hk.own.lt hj hk').2) (fun _ _ => rfl) (hk.own.get hj)) (fun _ _ => trivial)
  exact .inl ⟨_, w, by simp only [execOp, hk.kn.val hc hx, Sem.run_bind, conv_bytes hr hs he ht, Result.andThen_ok, Sem.run_pure], New.refl w, rep_lit rfl⟩
end
end Go.Proofs.YtfbkgaandmebaaaGreat.FW
namespace Go.Proofs.YtfbkgaandmebaaaGreat.FW
variable {Df : List Deferred}
open Go.RowKit Go.MapKept
set_option linter.unusedVariables false
set_option linter.unusedSectionVars false
def mdel {κ ν : Type} [DecidableEq κ] (m : List (κ × ν)) (k : κ) : List (κ × ν) := m.filter fun p => !decide (p.1 = k)
section
variable {P : Program} {M : Nat → Prop} {w0 : Bs} {w : World} {a : Act} {n : Nat} {I I' : List It} {σ : St} {c : Ch} {ty t kt et : TypeId} {pos : String} {aft : Array Edge} {ops : Array Oper} {Q : Exit → Act → World → Prop} {rest : List Oper} {x y : Operand} {j : Nat}
variable {κ ν : Type} [DecidableEq κ] {D : TypeDesc} {ek : κ → Value} {ev : ν → Value} {r : Nat} {m : List (κ × ν)} {k : κ}
theorem eraseIdx_map {α β : Type} (f : α → β) : ∀ (l : List α) (j : Nat), (l.eraseIdx j).map f = (l.map f).eraseIdx j
  | [], j => by simp
  | x :: r, 0 => by simp
  | x :: r, j + 1 => by simp [eraseIdx_map f r j]
theorem MapP.del {w : World} {es : Array MapEntry} {clock : Nat} (h : MapP D ek ev r m w es clock) (k : κ) (ht : P.underlying t = some (.map kt et)) (hd : P.underlying kt = some D) :
    ∃ w' es', (Builtin.delete_ #[t, kt] ty #[.map (some r), ek k]).run P w = .ok (.tuple #[]) w' ∧ Frm (fun k => k = r) w w' ∧ MapP D ek ev r (mdel m k) w' es' clock := by
  rcases h.find k with ⟨h1, h2, h3⟩ | ⟨j, e, p, h1, h2, h3, hp, hpk, hv⟩
  · refine ⟨_, es, ?_, Frm.putObj w r (.map es clock), (heap_set h.at_).1, h.stamped, ?_, h.key⟩
    · simp [Builtin.delete_, run_underlying ht, MapKept.run_getObj_map h.at_, run_checkKey hd (h.key.is k), run_findKey hd h1, run_setObj_map _ h.at_]
    · have e0 : mdel m k = m := by
        unfold mdel
        rw [List.filter_eq_self]
        intro p hp; simpa using h3 p hp
      rw [e0]; exact h.ents
  · refine ⟨_, es.eraseIdxIfInBounds j, ?_, Frm.putObj w r (.map (es.eraseIdxIfInBounds j) clock), (heap_set h.at_).1, stamped_erase h.stamped j, ?_, h.key⟩
    · simp [Builtin.delete_, run_underlying ht, MapKept.run_getObj_map h.at_, run_checkKey hd (h.key.is k), run_findKey hd h1, run_setObj_map _ h.at_]
    · have hnd := h.nodup
      have hj : j < es.size := by have := (List.getElem?_eq_some_iff.1 h2).1; simpa using this
      have e0 : mdel m k = m.eraseIdx j := by
        unfold mdel
        refine ChangeMaps.filter_eq_eraseIdx (fun p : κ × ν => decide (p.1 = k)) m j p hp (by simpa using hpk) ?_
        rw [List.Nodup, List.pairwise_map] at hnd
        refine hnd.imp fun hne hh => hne ?_
        simp only [decide_eq_true_eq] at hh
        rw [hh.1, hh.2]
      have e1 : (es.eraseIdxIfInBounds j).toList = es.toList.eraseIdx j := by
        unfold Array.eraseIdxIfInBounds
        rw [dif_pos hj]; simp
      rw [e0, e1, eraseIdx_map, eraseIdx_map, h.ents]
theorem l_mapDelete (hk : S M w0 a w n I σ Df) (hj : I[j]? = some (mapI D ek ev r m)) (hx : opvc σ [] x = some (.lit (.map (some r)))) (hy : opvc σ [] y = some (.lit (ek k))) (ht : P.underlying t = some (.map kt et)) (hd : P.underlying kt = some D)
    (hI : I.set j (mapI D ek ev r (mdel m k)) = I') (h : ∀ w', S M w0 a w' n I' σ Df → wpList P ops Q rest a w') :
    wpList P ops Q (⟨none, .call { callee := .builtin .delete, args := #[x, y], argTypes := #[t, kt] }, ty, pos, aft, none⟩ :: rest) a w := by
  obtain ⟨es, clock, hm⟩ := hk.own.get hj
  obtain ⟨w', es', hr, hw, hm'⟩ := hm.del (P := P) (ty := ty) k ht hd
  subst hI
  have hr' : (execOp a.eval ⟨none, .call { callee := .builtin .delete, args := #[x, y], argTypes := #[t, kt] }, ty, pos, aft, none⟩).run P w = .ok (.value (.tuple #[])) w' := by
    simp [execOp, resolve, invoke, builtin, hk.kn.val (holds_nil a) hx, hk.kn.val (holds_nil a) hy, hr]
  refine lval hk rfl rfl hr' ?_ (fun hk' => h _ hk')
  refine hk.upd hj hw ⟨es', clock, hm'⟩ fun k hk' => ⟨.inl hk', ?_⟩
  have : k < w.heap.size := (hk.own.lt hj (k := k) hk').2
  exact Nat.lt_of_lt_of_le this hw.size
end
section
variable {P : Program} {M : Nat → Prop} {w0 : Bs} {w : World} {a : Act} {n : Nat} {I I' : List It} {σ : St} {j : Nat} {α : Type} {f : α → List AV} {l : List α}
theorem S.freezeR2 {ad : Option Addr} {cap sz : Nat} {e : TypeId} {R : List α → List (List AV)} {t t' : Nat} (hR : ∀ l, R l = l.map f) (hk : S M w0 a w n I σ Df) (hj : I[j]? = some (orow ad cap e sz f l)) (hl : look σ t = some ([], .lit (.slice ad l.length cap)))
    (hl' : look ((t, [], .row (R l)) :: σ) t' = some ([], .lit (.slice ad l.length cap))) (h : I.eraseIdx j = I') : S M w0 a w n I' ((t', [], .row (R l)) :: (t, [], .row (R l)) :: σ) Df := by
  subst h
  rw [hR] at hl' ⊢
  exact ((hk.drop j).as hl (hk.freeze hj)).as hl' (hk.freeze hj)
theorem S.toArr {b : Nat} {t : TypeId} {zs : List AV} {N : Nat} (hsz : ∀ x, (f x).length = 1) (hk : S M w0 a w n I σ Df) (hj : I[j]? = some (blk b t zs)) (hzl : (l.map f).flatten = zs) (hN : l.length = N) (hm : N ≤ 1000000) (hI : I.set j (orow (some ⟨b, 0, none⟩) N t 1 f l) = I') : S M w0 a w n I' σ Df := by
  subst hI
  refine hk.conv (j := j) (it := blk b t zs) hj (fun ok hg hP => ?_) (fun k hk => ?_)
  · obtain ⟨arr, h1, h2⟩ := hP
    have hl : arr.toList.length = N := by rw [h2.length, ← hzl, flat_one hsz, hN]
    refine ⟨hsz, arr.toList, ⟨by simp [hl, hN], .inr ⟨b, N, arr, by simp, Nat.zero_le _, h1, by simp [hN], by unfold maxLen; omega, by simpa using hl, ?_⟩⟩, ?_⟩
    · rw [hN, Nat.mul_one, ← hl, List.take_length]
    · rw [hzl]; exact RepL.go hg _ _ h2
  · have hk0 : Value.ownBlock (.slice (some ⟨b, 0, none⟩) l.length N) = some k := hk
    simp only [Value.ownBlock, Option.some.injEq] at hk0
    exact hk0.symm
end
end Go.Proofs.YtfbkgaandmebaaaGreat.FW
namespace Go.Proofs.YtfbkgaandmebaaaGreat.FW
variable {Df : List Deferred}
open Go.RowKit
set_option linter.unusedVariables false
def asmH (σ : St) : Ch → Prop
  | [] => True
  | (j, want) :: c => match look σ j with
    | some (c0, .lit (.bool b)) => b = want ∧ subc c0 c = true ∧ asmH σ c
    | _ => False
theorem asm_in {ok : Nat → Prop} {a : Act} {w : World} {n : Nat} {σ : St} (hk : Knows ok a w n σ Df) : ∀ {c : Ch}, asmH σ c → holds a c
  | [], _ => holds_nil a
  | (j, want) :: c, h => by
    unfold asmH at h
    split at h
    · rename_i c0 b hl
      obtain ⟨rfl, hs, h'⟩ := h
      have hc := asm_in hk h'
      have h1 := (hk.ent _ _ _ hl).1 (holds_sub hs hc)
      simp only [Rep] at h1
      intro p hp
      rcases List.mem_cons.1 hp with rfl | hp
      · exact h1
      · exact hc p hp
    · exact h.elim
theorem bndG2 {α β : Type} {p : Prop} [Decidable p] {x : Option β} {d : β} {F : β → Option α} {r : α} (h : (if p then x else some d).bind F = some r) : ∃ y, (p → x = some y) ∧ (¬ p → y = d) ∧ F y = some r := by
  by_cases hp : p
  · rw [if_pos hp] at h; obtain ⟨y, h1, h2⟩ := bnd h; exact ⟨y, fun _ => h1, fun h' => absurd hp h', h2⟩
  · rw [if_neg hp] at h; exact ⟨d, fun h' => absurd h' hp, fun _ => rfl, h⟩
def ptrO {α : Type} (o : Option α) (b : Nat) : AV := .lit (.pointer (o.map fun _ => ⟨b, 0, none⟩))
def optI {α : Type} (o : Option α) (F : α → List It) : List It := match o with
  | none => []
  | some x => F x
section
variable {P : Program} {M : Nat → Prop} {w0 : Bs} {w w' : World} {a : Act} {n : Nat} {I I' : List It} {σ : St} {it : It} {j : Nat}
variable {c : Ch} {dst : Option Tmp} {ty : TypeId} {pos : String} {aft : Array Edge} {ops : Array Oper} {K : Exit → Act → World → Prop} {rest : List Oper} {d : Nat}
theorem S.dropL : ∀ {I1 I2 : List It}, S M w0 a w n (I1 ++ I2) σ Df → S M w0 a w n I2 σ Df
  | [], _, h => h
  | _ :: I1, _, h => S.dropL (I1 := I1) (h.drop 0)
theorem S.dropL2 {I1 I2 I3 : List It} (h : S M w0 a w n ((I1 ++ I2) ++ I3) σ Df) : S M w0 a w n (I2 ++ I3) σ Df := S.dropL (I1 := I1) (by rwa [List.append_assoc] at h)
theorem mem_pick : ∀ {js : List Nat} {I : List It} {x : It}, x ∈ FW.pick I js → x ∈ I
  | [], I, x, h => h
  | j :: js, I, x, h => by
    unfold FW.pick at h
    cases hj : I[j]? with
    | none => rw [hj] at h; exact h
    | some it =>
      rw [hj] at h
      rcases List.mem_cons.1 (mem_pick h) with rfl | h
      · exact List.mem_of_getElem? hj
      · exact List.mem_of_mem_eraseIdx h
theorem rres_keep {js : List Nat} {I1 I2 : List It} {r : ResultVar} {y : AV} (hp : FW.pick I js = I1 ++ I2) (h : RRes P (okM M I) a w r y) : RRes P (okM M I1) a w r y := by
  have hg : Goes (okM M I) (okM M I1) w w := by
    intro b hb hlt
    refine ⟨⟨hb.1, fun x hx => hb.2 x (mem_pick (js := js) (by rw [hp]; exact List.mem_append_left _ hx))⟩, rfl⟩
  cases h with
  | tmp h => exact .tmp (Rep.go hg _ _ h)
  | cell h => obtain ⟨v, h1, h2⟩ := h; exact .cell ⟨v, h1, Rep.go hg _ _ h2⟩
theorem l_callHG {f : Operand} {fid : FuncId} {ps : List Operand} {tys : Array TypeId} {fn : Func} {xs : List AV} {I1 I2 : List It} {Q : AV → List It → Prop} {js : List Nat} {j g : Nat} {want b : Bool} {c0 : Ch} (hk : S M w0 a w n I σ Df) (hp : FW.pick I js = I1 ++ I2)
    (hj : (ops[j]?).bind (·.dst) = some g) (hgn : Nat.blt g n = true) (hl : look σ g = some (c0, .lit (.bool b))) (hn : Nat.blt d n = true) (hf' : chFree σ d = true) (hcf : cFree ((g, want) :: c0) d = true)
    (hv : opvc σ [] f = some (.lit (.func (.func fid) #[] #[]))) (hx : argsA σ ((g, want) :: c0) ps = some xs)
    (hf : P.funcs[fid]? = some fn) (hb : fn.body.isSome = true) (hnm : (fn.name == "runtime.NumGoroutine") = false) (hok : holds a ((g, want) :: c0) → OkH P fid xs I1 Q)
    (hno : ¬ holds a ((g, want) :: c0) → ∃ y, Q y I1)
    (h : ∀ y I3, Q y I3 → ∀ a' w', S M w0 a' w' n (I3 ++ I2) ((d, (g, want) :: c0, y) :: σ) Df → wpList P ops K rest a' w') :
    wpList P ops K (⟨some d, .call { callee := .value f, args := ps.toArray, argTypes := tys }, ty, pos, aft, some (j, want)⟩ :: rest) a w := by
  have hk1 := hk.pick hp
  obtain ⟨hw1, hw2⟩ := wanted_iff (o := ⟨some d, .call { callee := .value f, args := ps.toArray, argTypes := tys }, ty, pos, aft, some (j, want)⟩) hk.kn rfl hj hgn hl
  unfold wpList
  by_cases hh : holds a ((g, want) :: c0)
  · rw [if_pos (hw1.2 hh)]
    left
    have hargs : RepL (okM (fun k => M k ∨ footL I2 k) I1) w xs (ps.map a.eval) := by
      rw [okM_part]; exact rep_args hk1.kn hh hx
    have hc := hok hh (fun k => M k ∨ footL I2 k) w (ps.map a.eval).toArray hk1.own.part (by simpa using hargs)
    unfold Oper.wp
    have hr0 : (execOp a.eval ⟨some d, .call { callee := .value f, args := ps.toArray, argTypes := tys }, ty, pos, aft, some (j, want)⟩).run P w = .ok (.enter fid (ps.map a.eval).toArray) w := run_call (f := f) (hk1.kn.val (holds_nil a) hv) (by simp) hf hb hnm
    rw [hr0, Oper.upon_enter]
    refine hc.mono ?_
    rintro e w' ⟨v, y, I3, rfl, hq, ho, hr⟩
    obtain ⟨ho', hgo⟩ := hk1.own.join ho
    rw [okM_part] at hr
    exact h y I3 hq _ w' ⟨ho', (hk1.kn.go hgo).put hn hf' hcf (fun _ => hr) (fun h' => absurd hh h')⟩
  · rw [if_neg (by rw [hw2 hh]; simp)]
    obtain ⟨y, hq⟩ := hno hh
    exact h y I1 hq _ _ ⟨hk1.own, hk1.kn.put hn hf' hcf (fun h' => absurd h' hh) (fun _ => rfl)⟩
end
end Go.Proofs.YtfbkgaandmebaaaGreat.FW
namespace Go.Proofs.YtfbkgaandmebaaaGreat.FW
variable {Df : List Deferred}
open Go.RowKit
set_option linter.unusedVariables false
set_option linter.unusedSectionVars false
section
variable {P : Program} {M : Nat → Prop} {w0 : Bs} {w w' : World} {a : Act} {n : Nat} {I I' : List It} {σ : St} {it : It} {j : Nat}
variable {c : Ch} {dst : Option Tmp} {ty : TypeId} {pos : String} {aft : Array Edge} {ops : Array Oper} {K : Exit → Act → World → Prop} {rest : List Oper} {d : Nat} {g : Option (Nat × Bool)} {x y : Operand}
theorem run_callC {f : Operand} {fid : FuncId} {args : Array Operand} {tys : Array TypeId} {vs cp : Array Value} {fn : Func}
    (hv : a.eval f = .func (.func fid) #[] cp) (ha : args.map a.eval = vs) (hf : P.funcs[fid]? = some fn) (hb : fn.body.isSome = true) (hn : (fn.name == "runtime.NumGoroutine") = false) :
    (execOp a.eval ⟨dst, .call { callee := .value f, args := args, argTypes := tys }, ty, pos, aft, g⟩).run P w = .ok (.enter fid (vs ++ cp)) w := by
  have hb' : ¬ fn.body = none := by cases h : fn.body <;> simp_all
  have hn' : ¬ fn.name = "runtime.NumGoroutine" := by simpa using hn
  simp only [execOp, resolve, hv, ha, Deferred.ofValue, invoke]
  simp [callFunc, hf, hb', hn']
theorem l_callHC {f : Operand} {fid : FuncId} {ps : List Operand} {tys : Array TypeId} {fn : Func} {xs : List AV} {I1 I2 : List It} {Q : AV → List It → Prop} {js : List Nat} {cp : List Value} (hk : S M w0 a w n I σ Df) (hp : FW.pick I js = I1 ++ I2) (hn : Nat.blt d n = true) (hf' : chFree σ d = true)
    (hv : opvc σ [] f = some (.lit (.func (.func fid) #[] cp.toArray))) (hx : argsA σ [] ps = some xs)
    (hf : P.funcs[fid]? = some fn) (hb : fn.body.isSome = true) (hnm : (fn.name == "runtime.NumGoroutine") = false) (hok : OkH P fid (xs ++ cp.map .lit) I1 Q)
    (h : ∀ y I3, Q y I3 → ∀ a' w', S M w0 a' w' n (I3 ++ I2) ((d, [], y) :: σ) Df → wpList P ops K rest a' w') :
    wpList P ops K (⟨some d, .call { callee := .value f, args := ps.toArray, argTypes := tys }, ty, pos, aft, none⟩ :: rest) a w := by
  have hk1 := hk.pick hp
  have hargs : RepL (okM (fun k => M k ∨ footL I2 k) I1) w (xs ++ cp.map .lit) (ps.map a.eval ++ cp) := by
    refine RepL.append ?_ (repL_lits cp)
    rw [okM_part]; exact rep_args hk1.kn (holds_nil a) hx
  have hc := hok (fun k => M k ∨ footL I2 k) w ((ps.map a.eval).toArray ++ cp.toArray) hk1.own.part (by simpa using hargs)
  refine leffcall (R := fun v w' => ∃ y I3, Q y I3 ∧ Own (fun k => M k ∨ footL I2 k) ⟨w, footL I1⟩ w' I3 ∧ Rep (okM (fun k => M k ∨ footL I2 k) I3) w' y v) hk1 rfl rfl hn hf' (run_callC (f := f) (hk1.kn.val (holds_nil a) hv) (by simp) hf hb hnm) (hc.mono fun e w' ⟨v, y, I3, he, hq, ho, hr⟩ => ⟨v, he, y, I3, hq, ho, hr⟩) ?_
  rintro v w' ⟨y, I3, hq, ho, hr⟩
  obtain ⟨ho', hgo⟩ := hk1.own.join ho
  rw [okM_part] at hr
  exact ⟨I3 ++ I2, y, ⟨ho', hk1.kn.go hgo⟩, hr, fun a' h' => h y I3 hq a' w' h'⟩
variable {α : Type} [Inhabited α] {f : α → List AV} {l : List α} {ad : Option Addr} {cap : Nat} {e t : TypeId} {sz : Nat}
theorem flat_at (hsz : ∀ x, (f x).length = sz) : ∀ (l : List α) (i : Nat), i < l.length → ((l.map f).flatten.drop (i * sz)).take sz = f (l.getD i default)
  | [], i, h => by simp at h
  | z :: l, 0, _ => by
    rw [Nat.zero_mul, List.drop_zero, List.map_cons, List.flatten_cons, List.getD_cons_zero, List.take_left' (hsz z)]
  | z :: l, i + 1, h => by
    rw [List.map_cons, List.flatten_cons, List.getD_cons_succ, Nat.succ_mul, Nat.add_comm (i * sz) sz, ← List.drop_drop, List.drop_left' (hsz z)]
    exact flat_at hsz l i (by simpa using h)
theorem f_loadOwn {D : TypeDesc} {i : Int} (hk : S M w0 a w n I σ Df) (hc : holds a c) (hj : I[j]? = some (orow ad cap e sz f l)) (hx : opvc σ c x = some (elA ad sz i)) (hi : asmP σ c (0 ≤ i ∧ i < l.length)) (hu : P.underlying t = some D) (hd : isAggD D = true) (hs : (P.info? t).map (·.size) = some sz) :
    Fun P (okM M I) ⟨dst, .load t x, ty, pos, aft, g⟩ a w (.agg (f (l.getD i.toNat default))) := by
  have hi := asm_out hk.kn hc hi
  obtain ⟨hsz, vals, hown, hL⟩ := hk.own.get hj
  rcases hown.2 with ⟨hv, hn⟩ | ⟨gb, cp, cur, hv, _, hh, hle, hcm, hcs, htk⟩
  · omega
  · injection hv with h3 h4 h5
    subst h3
    have hin : i.toNat * sz + sz ≤ l.length * sz := by
      rw [← Nat.succ_mul]; exact Nat.mul_le_mul_right sz (by omega)
    have hcl : l.length * sz ≤ cur.size := by rw [hcs]; exact Nat.mul_le_mul_right sz hle
    have hx' : a.eval x = .pointer (some ⟨gb, i.toNat * sz, none⟩) := hk.kn.val hc hx
    have hload := load_at (P := P) (b := gb) (off := i.toNat * sz) hh hu hd hs (by omega)
    refine .inl ⟨.agg ((cur.toList.drop (i.toNat * sz)).take sz).toArray, w, by simp only [execOp, hx', Instr.loadAt, Instr.sureAddr, Sem.run_bind, Sem.run_pure, Result.andThen_ok, hload], New.refl w, ?_⟩
    simp only [Rep]
    refine ⟨_, rfl, ?_⟩
    have hpart : ((cur.toList.drop (i.toNat * sz)).take sz) = ((vals.drop (i.toNat * sz)).take sz) := by
      rw [← htk, List.drop_take, List.take_take, show min sz (l.length * sz - i.toNat * sz) = sz by omega]
    rw [hpart, ← flat_at hsz l i.toNat (by omega)]
    exact (hL.drop _).take _
theorem eqGuard_sl (op : BinOp) (t : TypeId) (x y : Operand) (A B : Option Addr) (p q p' q' : Nat) (w : World) : (eqGuard op t x y (.slice A p q) (.slice B p' q')).run P w = .ok () w := by
  unfold eqGuard; cases op <;> simp
theorem f_eqSliceNil {t t' : TypeId} {n' cp p q : Nat} (hk : S M w0 a w n I σ Df) (hc : holds a c) (hx : opvc σ c x = some (.lit (.slice ad n' cp))) (hy : opvc σ c y = some (.lit (.slice none p q))) (hu : P.underlying t = some (.slice e)) :
    Fun P (okM M I) ⟨dst, .binOp .eql t x y t', ty, pos, aft, g⟩ a w (.lit (.bool ad.isNone)) := by
  refine .inl ⟨.bool ad.isNone, w, ?_, New.refl w, rep_lit rfl⟩
  simp only [execOp, hk.kn.val hc hx, hk.kn.val hc hy, Sem.run_bind, eqGuard_sl, Result.andThen_ok, Go.Lib.run_eql_slice_nil w t e ad n' cp p q hu, Sem.run_pure]
theorem S.asSlice {R : List α → List (List AV)} {i : Nat} (hR : ∀ l, R l = l.map f) (hk : S M w0 a w n I σ Df) (hl : look σ i = some ([], .row (R l))) : ∃ (ad : Option Addr) (cp : Nat), (ad = none → l = []) ∧ S M w0 a w n I ((i, [], .lit (.slice ad l.length cp)) :: σ) Df := by
  have h := (hk.kn.ent _ _ _ hl).1 (holds_nil a)
  rw [hR] at h
  simp only [Rep] at h
  obtain ⟨ad, cp, hv, hle, h⟩ := h
  rw [List.length_map] at hv
  refine ⟨ad, cp, fun e0 => ?_, hk.own, hk.kn.defers, hk.kn.size, fun j c u hl' => ?_⟩
  · rcases h with h | ⟨b, off, arr, el, fr, h1, _⟩
    · exact List.map_eq_nil_iff.1 h
    · rw [e0] at h1; cases h1
  · unfold look at hl'
    cases hb : Nat.beq i j with
    | true =>
      simp only [hb, cond_true, Option.some.injEq, Prod.mk.injEq] at hl'
      obtain ⟨rfl, rfl⟩ := hl'
      have : i = j := Nat.eq_of_beq_eq_true hb
      subst this
      exact ⟨fun _ => by simp only [Rep]; exact hv, fun hh => absurd (holds_nil a) hh⟩
    | false =>
      simp only [hb, cond_false] at hl'
      exact hk.kn.ent _ _ _ hl'
end
end Go.Proofs.YtfbkgaandmebaaaGreat.FW
namespace Go.Proofs.YtfbkgaandmebaaaGreat.FW
set_option linter.unusedVariables false
theorem OkH.nil1 {P : Program} {f : FuncId} {x : AV} {I : List It} {Q : AV → List It → Prop} (h : OkH P f [x, .row []] I Q) : OkH P f [x, .lit (.slice none 0 0)] I Q := fun M w vs hM hr => h M w vs hM (by
  obtain ⟨v, r, e, h1, v2, r2, e2, h2, h3⟩ := hr
  refine ⟨v, r, e, h1, v2, r2, e2, ?_, h3⟩
  have h2' : v2 = .slice none 0 0 := by simpa [Rep] using h2
  rw [h2']; exact rep_nil)
theorem Ok.nil1 {P : Program} {f : FuncId} {x y : AV} (h : Ok P f [x, .row []] y) : Ok P f [x, .lit (.slice none 0 0)] y := fun M w vs hM hr => h M w vs hM (by
  obtain ⟨v, r, e, h1, v2, r2, e2, h2, h3⟩ := hr
  refine ⟨v, r, e, h1, v2, r2, e2, ?_, h3⟩
  have h2' : v2 = .slice none 0 0 := by simpa [Rep] using h2
  rw [h2']; exact rep_nil)
end Go.Proofs.YtfbkgaandmebaaaGreat.FW
namespace Go.Proofs.YtfbkgaandmebaaaGreat.FW
variable {Df : List Deferred}
open Go.RowKit
set_option linter.unusedVariables false
set_option linter.unusedSimpArgs false
def gslots (ops : List Oper) : Nat → Oper → List Nat
  | 0, _ => []
  | f + 1, o => match o.guard with
    | none => []
    | some (j, _) => match ops[j]? with
      | some oj => oj.dst.toList ++ gslots ops f oj
      | none => []
def looks (ops : List Oper) (o : Oper) : List Nat := (o.op.operands.toList.filterMap fun | .tmp t => some t | _ => none) ++ gslots ops ops.length o
def binding (o : Oper) : List Nat := (o.after.toList.filter (Region.binds .any)).map (·.on)
def maskOf (acc : List Nat) (l : List Nat) : Nat := l.foldl (fun s e => s ||| 2 ^ e ||| acc.getD e 0) 0
def ancsFrom : List Oper → List Nat → List Nat
  | [], acc => acc
  | o :: r, acc => ancsFrom r (acc ++ [maskOf acc (binding o)])
def ancs (ops : List Oper) : List Nat := ancsFrom ops []
def hasD (l : List Nat) (d : Option Nat) : Bool := match d with | some d => l.any (Nat.beq d) | none => false
def clash (ops : List Oper) (x y : Oper) : Bool := hasD (looks ops y) x.dst || hasD (looks ops x) y.dst || (match x.dst with | some d => hasD [d] y.dst | none => false)
def ordFrom (ops : List Oper) (an : List Nat) : List Oper → Nat → Bool
  | [], _ => true
  | o :: r, k => (binding o).all (fun e => Nat.blt e k) && (ops.take k).zipIdx.all (fun p => !clash ops p.1 o || (an.getD k 0).testBit p.2) && ordFrom ops an r (k + 1)
def ordOk (ops : List Oper) : Bool := ordFrom ops (ancs ops) ops 0
theorem testBit_maskOf (acc : List Nat) (i : Nat) : ∀ (l : List Nat) (s : Nat), (l.foldl (fun s e => s ||| 2 ^ e ||| acc.getD e 0) s).testBit i = true → s.testBit i = true ∨ ∃ e ∈ l, e = i ∨ (acc.getD e 0).testBit i = true
  | [], s, h => .inl h
  | e :: l, s, h => by
    rw [List.foldl_cons] at h
    rcases testBit_maskOf acc i l _ h with h | ⟨e', he, h⟩
    · rw [Nat.testBit_or, Nat.testBit_or, Bool.or_eq_true, Bool.or_eq_true] at h
      rcases h with (h | h) | h
      · exact .inl h
      · rw [Nat.testBit_two_pow] at h
        exact .inr ⟨e, List.mem_cons_self, .inl (by simpa using h)⟩
      · exact .inr ⟨e, List.mem_cons_self, .inr h⟩
    · exact .inr ⟨e', List.mem_cons_of_mem _ he, h⟩
theorem ancsFrom_prefix : ∀ (ops : List Oper) (acc : List Nat), ∃ t, ancsFrom ops acc = acc ++ t ∧ t.length = ops.length
  | [], acc => ⟨[], by simp [ancsFrom], rfl⟩
  | o :: r, acc => by
    obtain ⟨t, h, hl⟩ := ancsFrom_prefix r (acc ++ [maskOf acc (binding o)])
    exact ⟨maskOf acc (binding o) :: t, by simp [ancsFrom, h], by simp [hl]⟩
theorem ancsFrom_at : ∀ (ops : List Oper) (acc : List Nat) (j : Nat) (o : Oper), ops[j]? = some o → ∃ pre, (∀ k, k < acc.length + j → pre.getD k 0 = (ancsFrom ops acc).getD k 0) ∧ (∀ k, acc.length + j ≤ k → pre.getD k 0 = 0) ∧ (ancsFrom ops acc).getD (acc.length + j) 0 = maskOf pre (binding o)
  | [], acc, j, o, h => by simp at h
  | p :: r, acc, 0, o, h => by
    simp only [List.getElem?_cons_zero, Option.some.injEq] at h
    subst h
    obtain ⟨t, ht, hl⟩ := ancsFrom_prefix r (acc ++ [maskOf acc (binding p)])
    refine ⟨acc, ?_, ?_, ?_⟩
    · intro k hk
      rw [ancsFrom, ht, List.append_assoc]
      rw [List.getD_eq_getElem?_getD, List.getD_eq_getElem?_getD, List.getElem?_append_left (by simpa using hk)]
    · intro k hk
      rw [List.getD_eq_getElem?_getD, List.getElem?_eq_none (by simpa using hk)]; rfl
    · rw [ancsFrom, ht, List.append_assoc]
      rw [List.getD_eq_getElem?_getD, List.getElem?_append_right (by simp)]
      simp
  | p :: r, acc, j + 1, o, h => by
    obtain ⟨pre, h1, h2, h3⟩ := ancsFrom_at r (acc ++ [maskOf acc (binding p)]) j o (by simpa using h)
    have e : (acc ++ [maskOf acc (binding p)]).length + j = acc.length + (j + 1) := by simp; omega
    rw [e] at h1 h2 h3
    exact ⟨pre, by simpa [ancsFrom] using h1, h2, by simpa [ancsFrom] using h3⟩
theorem closed_ancs {ops : List Oper} {D : Nat → Prop} (hD : ∀ j o, ops[j]? = some o → D j → ∀ e ∈ binding o, D e) : ∀ (j : Nat) (o : Oper), ops[j]? = some o → D j → ∀ i, ((ancs ops).getD j 0).testBit i = true → D i := by
  intro j
  induction j using Nat.strongRecOn with
  | _ j ih =>
    intro o ho hj i hi
    obtain ⟨pre, h1, h2, h3⟩ := ancsFrom_at ops [] j o ho
    simp only [List.length_nil, Nat.zero_add] at h1 h2 h3
    unfold ancs at hi
    rw [h3] at hi
    rcases testBit_maskOf pre i _ _ hi with h | ⟨e, he, h⟩
    · simp at h
    · have hDe := hD j o ho hj e he
      rcases h with rfl | h
      · exact hDe
      · by_cases hlt : e < j
        · rw [h1 e hlt] at h
          have : ∃ oe, ops[e]? = some oe := by
            have hlen : j < ops.length := (List.getElem?_eq_some_iff.1 ho).1
            exact ⟨ops[e]'(by omega), List.getElem?_eq_getElem (by omega)⟩
          obtain ⟨oe, hoe⟩ := this
          exact ih e hlt oe hoe hDe i h
        · rw [h2 e (by omega)] at h
          simp at h
theorem ordFrom_at {ops : List Oper} {an : List Nat} : ∀ {l : List Oper} {k : Nat}, ordFrom ops an l k = true → ∀ {j : Nat} {o : Oper}, l[j]? = some o →
    (∀ e ∈ binding o, e < k + j) ∧ ∀ (i : Nat) (oi : Oper), i < k + j → ops[i]? = some oi → clash ops oi o = true → (an.getD (k + j) 0).testBit i = true
  | [], k, h, j, o, hj => by simp at hj
  | p :: r, k, h, 0, o, hj => by
    simp only [List.getElem?_cons_zero, Option.some.injEq] at hj
    subst hj
    simp only [ordFrom, Bool.and_eq_true] at h
    obtain ⟨⟨h1, h2⟩, _⟩ := h
    refine ⟨fun e he => ?_, fun i oi hi hoi hc => ?_⟩
    · rw [List.all_eq_true] at h1
      exact Nat.le_of_ble_eq_true (h1 e he)
    · rw [List.all_eq_true] at h2
      have hm : (oi, i) ∈ (ops.take k).zipIdx := by
        rw [List.mem_zipIdx_iff_getElem?]
        simp only
        rw [List.getElem?_take_of_lt (by omega)]
        exact hoi
      have := h2 _ hm
      simpa [hc] using this
  | p :: r, k, h, j + 1, o, hj => by
    simp only [ordFrom, Bool.and_eq_true] at h
    have h2 := ordFrom_at h.2 (j := j) (o := o) (by simpa using hj)
    rw [show k + (j + 1) = k + 1 + j from by omega]
    exact h2
def stD (D : Nat → Bool) : Nat → List (Nat × Ch × AV) → St → St
  | _, [], σ => σ
  | k, e :: r, σ => stD D (k + 1) r (bif D k then e :: σ else σ)
def only (l : List Nat) (σ : St) : St := σ.filter fun e => l.any (Nat.beq e.1)
theorem look_only {l : List Nat} {σ : St} {t : Nat} : look (only l σ) t = bif l.any (Nat.beq t) then look σ t else none := by
  induction σ with
  | nil => simp [only, look]
  | cons e r ih =>
    unfold only at ih ⊢
    rw [List.filter_cons]
    cases hb : Nat.beq e.1 t with
    | true =>
      have he : e.1 = t := Nat.eq_of_beq_eq_true hb
      rw [he]
      cases hl : l.any (Nat.beq t) with
      | true => simp [look, hb]
      | false => rw [hl] at ih; simpa using ih
    | false =>
      cases hl' : l.any (Nat.beq e.1) with
      | true => simp [look, hb, ih]
      | false => simp [look, hb, ih]
theorem look_stD {D : Nat → Bool} {t : Nat} : ∀ (E : List (Nat × Ch × AV)) (k : Nat) (σ : St),
    (∃ j e, E[j]? = some e ∧ D (k + j) = true ∧ e.1 = t ∧ (∀ j' e', j < j' → E[j']? = some e' → D (k + j') = true → ¬ e'.1 = t) ∧ look (stD D k E σ) t = some e.2) ∨
    ((∀ j e, E[j]? = some e → D (k + j) = true → ¬ e.1 = t) ∧ look (stD D k E σ) t = look σ t)
  | [], k, σ => .inr ⟨fun j e h => by simp at h, rfl⟩
  | e :: r, k, σ => by
    rcases look_stD r (k + 1) (bif D k then e :: σ else σ) with ⟨j, e', h1, h2, h3, h4, h5⟩ | ⟨h1, h2⟩
    · left
      refine ⟨j + 1, e', by simpa using h1, by rw [show k + (j + 1) = k + 1 + j from by omega]; exact h2, h3, ?_, by simpa [stD] using h5⟩
      intro j' e'' hlt he'' hD''
      cases j' with
      | zero => omega
      | succ j' => exact h4 j' e'' (by omega) (by simpa using he'') (by rw [show k + 1 + j' = k + (j' + 1) from by omega]; exact hD'')
    · by_cases hk : D k = true ∧ e.1 = t
      · left
        refine ⟨0, e, rfl, by simpa using hk.1, hk.2, ?_, ?_⟩
        · intro j' e'' hlt he'' hD''
          cases j' with
          | zero => omega
          | succ j' => exact h1 j' e'' (by simpa using he'') (by rw [show k + 1 + j' = k + (j' + 1) from by omega]; exact hD'')
        · simp only [stD]
          rw [h2, hk.1]
          simp [look, hk.2]
      · right
        refine ⟨?_, ?_⟩
        · intro j e' he' hD'
          cases j with
          | zero =>
            simp only [List.getElem?_cons_zero, Option.some.injEq] at he'
            subst he'
            exact fun h => hk ⟨by simpa using hD', h⟩
          | succ j => exact h1 j e' (by simpa using he') (by rw [show k + 1 + j = k + (j + 1) from by omega]; exact hD')
        · simp only [stD]
          rw [h2]
          cases hDk : D k with
          | false => rfl
          | true =>
            have hne : ¬ e.1 = t := fun h => hk ⟨hDk, h⟩
            have : Nat.beq e.1 t = false := by
              cases hb : Nat.beq e.1 t with
              | false => rfl
              | true => exact absurd (Nat.eq_of_beq_eq_true hb) hne
            simp [look, this]
theorem look_stD_congr {D D' : Nat → Bool} {t : Nat} {E : List (Nat × Ch × AV)} {σ : St} (h : ∀ j e, E[j]? = some e → e.1 = t → D j = D' j) : look (stD D 0 E σ) t = look (stD D' 0 E σ) t := by
  rcases look_stD (D := D) (t := t) E 0 σ with ⟨j, e, h1, h2, h3, h4, h5⟩ | ⟨h1, h2⟩ <;>
  rcases look_stD (D := D') (t := t) E 0 σ with ⟨j', e', h1', h2', h3', h4', h5'⟩ | ⟨h1', h2'⟩
  · simp only [Nat.zero_add] at *
    rcases Nat.lt_trichotomy j j' with hlt | rfl | hlt
    · exact absurd h3' (h4 j' e' hlt h1' (by rw [h j' e' h1' h3']; exact h2'))
    · rw [h1] at h1'; injection h1' with h1'; rw [h5, h5', h1']
    · exact absurd h3 (h4' j e hlt h1 (by rw [← h j e h1 h3]; exact h2))
  · simp only [Nat.zero_add] at *
    exact absurd h3 (h1' j e h1 (by rw [← h j e h1 h3]; exact h2))
  · simp only [Nat.zero_add] at *
    exact absurd h3' (h1 j' e' h1' (by rw [h j' e' h1' h3']; exact h2'))
  · rw [h2, h2']
theorem mem_stD {D : Nat → Bool} {x : Nat × Ch × AV} : ∀ (E : List (Nat × Ch × AV)) (k : Nat) (σ : St), x ∈ stD D k E σ → x ∈ σ ∨ ∃ j, E[j]? = some x ∧ D (k + j) = true
  | [], k, σ, h => .inl h
  | e :: r, k, σ, h => by
    rcases mem_stD r (k + 1) _ h with h | ⟨j, h1, h2⟩
    · cases hD : D k with
      | false => rw [hD] at h; exact .inl h
      | true =>
        rw [hD] at h
        simp only [cond_true] at h
        rcases List.mem_cons.1 h with rfl | h
        · exact .inr ⟨0, rfl, by simpa using hD⟩
        · exact .inl h
    · exact .inr ⟨j + 1, by simpa using h1, by rw [show k + (j + 1) = k + 1 + j from by omega]; exact h2⟩
theorem stD_mem {D : Nat → Bool} {x : Nat × Ch × AV} : ∀ (E : List (Nat × Ch × AV)) (k : Nat) (σ : St), (x ∈ σ ∨ ∃ j, E[j]? = some x ∧ D (k + j) = true) → x ∈ stD D k E σ
  | [], k, σ, h => by
    rcases h with h | ⟨j, h, _⟩
    · exact h
    · simp at h
  | e :: r, k, σ, h => by
    refine stD_mem r (k + 1) _ ?_
    rcases h with h | ⟨j, h1, h2⟩
    · left
      cases D k with
      | false => exact h
      | true => exact List.mem_cons_of_mem _ h
    · cases j with
      | zero =>
        simp only [List.getElem?_cons_zero, Option.some.injEq] at h1
        subst h1
        left
        rw [Nat.add_zero] at h2
        rw [h2]
        exact List.mem_cons_self
      | succ j => exact .inr ⟨j, by simpa using h1, by rw [show k + 1 + j = k + (j + 1) from by omega]; exact h2⟩
theorem stD_congr {D D' : Nat → Bool} : ∀ (E : List (Nat × Ch × AV)) (k : Nat) (σ : St), (∀ j, j < E.length → D (k + j) = D' (k + j)) → stD D k E σ = stD D' k E σ
  | [], k, σ, h => rfl
  | e :: r, k, σ, h => by
    have h0 := h 0 (by simp)
    simp only [Nat.add_zero] at h0
    simp only [stD, h0]
    exact stD_congr r (k + 1) _ fun j hj => by
      have := h (j + 1) (by simpa using hj)
      rwa [show k + (j + 1) = k + 1 + j from by omega] at this
theorem stD_false : ∀ (E : List (Nat × Ch × AV)) (k : Nat) (σ : St), stD (fun _ => false) k E σ = σ
  | [], k, σ => rfl
  | e :: r, k, σ => by simpa [stD] using stD_false r (k + 1) σ
theorem stD_shift {D : Nat → Bool} : ∀ (E : List (Nat × Ch × AV)) (k : Nat) (σ : St), stD D (k + 1) E σ = stD (fun i => D (i + 1)) k E σ
  | [], k, σ => rfl
  | e :: r, k, σ => by simp only [stD]; exact stD_shift r (k + 1) _
section
variable {P : Program} {M : Nat → Prop} {w0 : Bs} {n : Nat} {I : List It} {Q : Exit → Act → World → Prop}
structure Hop (P : Program) (ops : List Oper) (M : Nat → Prop) (w0 : Bs) (Df : List Deferred) (n : Nat) (I : List It) (σ : St) (o : Oper) (d : Nat) (c : Ch) (y : AV) : Prop where
  dst : o.dst = some d
  lt : Nat.blt d n = true
  free : chFree σ d = true
  cfree : cFree c d = true
  chain : (o.guard = none ∧ c = []) ∨ ∃ j want g b c0, o.guard = some (j, want) ∧ (ops[j]?).bind (·.dst) = some g ∧ Nat.blt g n = true ∧ look σ g = some (c0, .lit (.bool b)) ∧ c = (g, want) :: c0
  cl : (c.all fun p => (looks ops o).any (Nat.beq p.1)) = true
  f : ∀ a w, S M w0 a w n I (only (looks ops o) σ) Df → holds a c → Fun P (okM M I) o a w y
def wpF (P : Program) (ops : List Oper) (M : Nat → Prop) (w0 : Bs) (Df : List Deferred) (n : Nat) (I : List It) : List Oper → St → (St → Prop) → Prop
  | [], σ, K => K σ
  | o :: r, σ, K => ∃ d c y, Hop P ops M w0 Df n I σ o d c y ∧ wpF P ops M w0 Df n I r ((d, c, y) :: σ) K
theorem wpF_list {ops : List Oper} {K : St → Prop} : ∀ {l : List Oper} {σ : St}, wpF P ops M w0 Df n I l σ K → ∃ E : List (Nat × Ch × AV), E.length = l.length ∧
    (∀ (j : Nat) (o : Oper), l[j]? = some o → ∃ d c y, E[j]? = some (d, c, y) ∧ Hop P ops M w0 Df n I (stD (fun i => decide (i < j)) 0 E σ) o d c y) ∧ K (stD (fun _ => true) 0 E σ)
  | [], σ, h => ⟨[], rfl, fun j o h => by simp at h, h⟩
  | o :: r, σ, h => by
    obtain ⟨d, c, y, h1, h2⟩ := h
    obtain ⟨E, hl, hE, hK⟩ := wpF_list h2
    refine ⟨(d, c, y) :: E, by simp [hl], ?_, ?_⟩
    · intro j o' ho'
      cases j with
      | zero =>
        simp only [List.getElem?_cons_zero, Option.some.injEq] at ho'
        subst ho'
        refine ⟨d, c, y, rfl, ?_⟩
        have : stD (fun i => decide (i < 0)) 0 ((d, c, y) :: E) σ = σ := by
          rw [show (fun i => decide (i < 0)) = (fun _ : Nat => false) from by funext i; simp]
          exact stD_false _ _ _
        rw [this]
        exact h1
      | succ j =>
        obtain ⟨d', c', y', h3, h4⟩ := hE j o' (by simpa using ho')
        refine ⟨d', c', y', by simpa using h3, ?_⟩
        have : stD (fun i => decide (i < j + 1)) 0 ((d, c, y) :: E) σ = stD (fun i => decide (i < j)) 0 E ((d, c, y) :: σ) := by
          simp only [stD]
          rw [stD_shift]
          simp only [Nat.zero_lt_succ, decide_true, cond_true, Nat.add_lt_add_iff_right]
        rw [this]
        exact h4
    · simp only [stD]
      rw [stD_shift]
      simpa using hK
theorem Knows.of_look {ok : Nat → Prop} {a : Act} {w : World} {σ σ' : St} (hk : Knows ok a w n σ Df) (h : ∀ t x, look σ' t = some x → look σ t = some x) : Knows ok a w n σ' Df := ⟨hk.defers, hk.size, fun i c x hl => hk.ent i c x (h _ _ hl)⟩
theorem any_beq {l : List Nat} {t : Nat} : l.any (Nat.beq t) = true ↔ t ∈ l := by
  rw [List.any_eq_true]
  constructor
  · rintro ⟨x, hx, h⟩
    rw [Nat.eq_of_beq_eq_true h]; exact hx
  · intro h
    exact ⟨t, h, by simp⟩
theorem wpAny_fun {ops : List Oper} {E : List (Nat × Ch × AV)} {σ0 : St} (hord : ordOk ops = true) (hlen : E.length = ops.length)
    (hE : ∀ (j : Nat) (o : Oper), ops[j]? = some o → ∃ d c y, E[j]? = some (d, c, y) ∧ Hop P ops M w0 Df n I (stD (fun i => decide (i < j)) 0 E σ0) o d c y)
    (hQ : ∀ a w, S M w0 a w n I (stD (fun _ => true) 0 E σ0) Df → Q .normal a w) :
    ∀ (fuel : Nat) (listed : Array Bool) (a : Act) (w : World), listed.size = ops.length → listed.toList.count false = fuel →
      (∀ j o, ops[j]? = some o → listed.getD j false = true → ∀ e ∈ binding o, listed.getD e false = true) →
      S M w0 a w n I (stD (fun j => listed.getD j false) 0 E σ0) Df → wpAny P .any ops.toArray Q fuel listed a w := by
  intro fuel
  have hopE : ∀ (j : Nat) (e : Nat × Ch × AV), E[j]? = some e → ∃ o, ops[j]? = some o ∧ o.dst = some e.1 ∧ (e.2.1.all fun p => (looks ops o).any (Nat.beq p.1)) = true := by
    intro j e he
    have hj : j < ops.length := by rw [← hlen]; exact (List.getElem?_eq_some_iff.1 he).1
    obtain ⟨d, c, y, h1, h2⟩ := hE j ops[j] (List.getElem?_eq_getElem hj)
    rw [h1] at he
    injection he with he
    subst he
    exact ⟨ops[j], List.getElem?_eq_getElem hj, h2.dst, h2.cl⟩
  have noneLeft : ∀ (listed : Array Bool), listed.size = ops.length → listed.toList.count false = 0 → (∀ j, j < ops.length → listed.getD j false = true) := by
    intro listed hs hc j hj
    have h1 : false ∉ listed.toList := List.count_eq_zero.1 hc
    have h2 : listed[j]'(by omega) ∈ listed.toList := by
      rw [Array.mem_toList_iff]; exact Array.getElem_mem _
    cases hb : listed[j]'(by omega) with
    | true => simp [Array.getD_eq_getD_getElem?, hs, hj, hb]
    | false => rw [hb] at h2; exact absurd h2 h1
  have hready : ∀ (listed : Array Bool), listed.size = ops.length → (∃ j, j < ops.length ∧ listed.getD j false = false) → Region.ready .any ops.toArray listed ≠ [] := by
    intro listed hs hex hnil
    have : ∀ j, j < ops.length → listed.getD j false = true := by
      intro j
      induction j using Nat.strongRecOn with
      | _ j ih =>
        intro hj
        cases hb : listed.getD j false with
        | true => rfl
        | false =>
          exfalso
          have hm : j ∈ Region.ready .any ops.toArray listed := by
            rw [mem_ready]
            refine ⟨?_, ops[j], by simp [hj], ?_⟩
            · have hlt : j < listed.size := by omega
              simpa [Array.getD_eq_getD_getElem?, hlt] using hb
            · intro e he hbnd
              have hmem : e.on ∈ binding ops[j] := by
                unfold binding
                refine List.mem_map.2 ⟨e, List.mem_filter.2 ⟨by simpa using he, hbnd⟩, rfl⟩
              have hlt := (ordFrom_at (k := 0) hord (j := j) (o := ops[j]) (List.getElem?_eq_getElem hj)).1 _ hmem
              rw [Nat.zero_add] at hlt
              exact ih e.on hlt (by omega)
          rw [hnil] at hm
          cases hm
    obtain ⟨j, hj, hf⟩ := hex
    rw [this j hj] at hf
    cases hf
  induction fuel with
  | zero =>
    intro listed a w hs hc hcl hk
    have hall := noneLeft listed hs hc
    refine ⟨?_, hQ a w ?_⟩
    · apply List.eq_nil_iff_forall_not_mem.2
      intro j hj
      rw [mem_ready] at hj
      obtain ⟨h0, o, ho, _⟩ := hj
      have hlt : j < ops.length := by simpa using (Array.getElem?_eq_some_iff.1 ho).1
      have h1 := hall j hlt
      have hlt' : j < listed.size := by omega
      simp [Array.getD_eq_getD_getElem?, hlt'] at h0 h1
      rw [h0] at h1; cases h1
    · rw [stD_congr E 0 σ0 (D' := fun j => listed.getD j false) fun j hj => by simpa using (hall j (by omega)).symm]
      exact hk
  | succ fuel ih =>
    intro listed a w hs hc hcl hk
    refine ⟨fun hnil => ?_, fun i hi => ?_⟩
    · exfalso
      refine hready listed hs ?_ hnil
      false_or_by_contra
      rename_i hno
      have : listed.toList.count false = 0 := by
        rw [List.count_eq_zero]
        intro hm
        obtain ⟨j, hj⟩ := List.mem_iff_getElem?.1 hm
        have hlt : j < listed.size := by
          have := (List.getElem?_eq_some_iff.1 hj).1; simpa using this
        refine hno ⟨j, by omega, ?_⟩
        have : listed[j]? = some false := by simpa using hj
        simp [Array.getD_eq_getD_getElem?, this]
      omega
    · rw [mem_ready] at hi
      obtain ⟨hi0, o, ho, hedges⟩ := hi
      have ho' : ops[i]? = some o := by simpa using ho
      have hilt : i < ops.length := (List.getElem?_eq_some_iff.1 ho').1
      have hilt' : i < listed.size := by omega
      have hiF : listed.getD i false = false := by simpa [Array.getD_eq_getD_getElem?, hilt'] using hi0
      obtain ⟨d, c, y, hEi, hop⟩ := hE i o ho'
      have hed : ∀ e ∈ binding o, listed.getD e false = true := by
        intro e he
        unfold binding at he
        obtain ⟨x, hx, rfl⟩ := List.mem_map.1 he
        obtain ⟨h1, h2⟩ := List.mem_filter.1 hx
        exact hedges x (by simpa using h1) h2
      have hordi := ordFrom_at (k := 0) hord (j := i) (o := o) ho'
      simp only [Nat.zero_add] at hordi
      have hclash : ∀ (j : Nat) (oj : Oper), ops[j]? = some oj → j ≠ i → (clash ops oj o = true ∨ clash ops o oj = true) → (clash ops oj o = true ∧ clash ops o oj = true) → listed.getD j false = decide (j < i) := by
        intro j oj hoj hne _ hcl2
        rcases Nat.lt_or_ge j i with hlt | hge
        · have hb := hordi.2 j oj hlt hoj hcl2.1
          have := closed_ancs (ops := ops) (D := fun k => listed.getD k false = true ∨ k = i) (by
            intro j' o' ho'' hD e he
            rcases hD with hD | rfl
            · exact .inl (hcl j' o' ho'' hD e he)
            · rw [ho'] at ho''; injection ho'' with ho''; subst ho''
              exact .inl (hed e he)) i o ho' (.inr rfl) j hb
          rcases this with h | h
          · rw [h]; simp [hlt]
          · exact absurd h hne
        · have hlt : i < j := by omega
          have hordj := ordFrom_at (k := 0) hord (j := j) (o := oj) hoj
          simp only [Nat.zero_add] at hordj
          have hb := hordj.2 i o hlt ho' hcl2.2
          cases hD : listed.getD j false with
          | false => simp; omega
          | true =>
            have := closed_ancs (ops := ops) (D := fun k => listed.getD k false = true) (fun j' o' ho'' hD e he => hcl j' o' ho'' hD e he) j oj hoj hD i hb
            rw [hiF] at this; cases this
      have hA : ∀ (t : Nat), t ∈ looks ops o → ∀ (j : Nat) (e : Nat × Ch × AV), E[j]? = some e → e.1 = t → listed.getD j false = decide (j < i) := by
        intro t ht j e he het
        obtain ⟨oj, hoj, hdj, _⟩ := hopE j e he
        by_cases hji : j = i
        · subst hji; rw [hiF]; simp
        · refine hclash j oj hoj hji (.inl ?_) ⟨?_, ?_⟩ <;> · simp [clash, hasD, hdj, het, any_beq.2 ht]
      have hB : ∀ (j : Nat) (e : Nat × Ch × AV), E[j]? = some e → j ≠ i → e.1 = d → listed.getD j false = decide (j < i) := by
        intro j e he hne het
        obtain ⟨oj, hoj, hdj, _⟩ := hopE j e he
        refine hclash j oj hoj hne (.inl ?_) ⟨?_, ?_⟩ <;> · simp [clash, hasD, hdj, het, hop.dst]
      have hC : ∀ (j : Nat) (e : Nat × Ch × AV), E[j]? = some e → j ≠ i → cFree e.2.1 d = false → listed.getD j false = decide (j < i) := by
        intro j e he hne hcf
        obtain ⟨oj, hoj, hdj, hcj⟩ := hopE j e he
        have hd : d ∈ looks ops oj := by
          unfold cFree at hcf
          rw [List.all_eq_false] at hcf
          obtain ⟨p, hp, hb⟩ := hcf
          have hpd : p.1 = d := by
            cases hbb : Nat.beq p.1 d with
            | true => exact Nat.eq_of_beq_eq_true hbb
            | false => simp [hbb] at hb
          rw [List.all_eq_true] at hcj
          rw [← hpd]
          exact any_beq.1 (hcj p hp)
        refine hclash j oj hoj hne (.inl ?_) ⟨?_, ?_⟩ <;> · simp [clash, hasD, hop.dst, any_beq.2 hd]
      have hlook : ∀ (t : Nat), t ∈ looks ops o → look (stD (fun j => listed.getD j false) 0 E σ0) t = look (stD (fun j => decide (j < i)) 0 E σ0) t := by
        intro t ht
        exact look_stD_congr fun j e he het => hA t ht j e he het
      have hko : S M w0 a w n I (only (looks ops o) (stD (fun j => decide (j < i)) 0 E σ0)) Df := by
        refine ⟨hk.own, hk.kn.of_look fun t x hx => ?_⟩
        rw [look_only] at hx
        cases hl : (looks ops o).any (Nat.beq t) with
        | false => rw [hl] at hx; simp at hx
        | true => rw [hl] at hx; rw [hlook t (any_beq.1 hl)]; exact hx
      have hfree : chFree (stD (fun j => listed.getD j false) 0 E σ0) d = true := by
        have h0 := hop.free
        unfold chFree at h0 ⊢
        rw [List.all_eq_true] at h0 ⊢
        intro e he
        rcases mem_stD E 0 σ0 he with h | ⟨j, hj, hD⟩
        · exact h0 e (stD_mem E 0 σ0 (.inl h))
        · rw [Nat.zero_add] at hD
          by_cases hji : j = i
          · subst hji; rw [hiF] at hD; cases hD
          · cases hcf : cFree e.2.1 d with
            | true => rfl
            | false =>
              have h1 := hC j e hj hji hcf
              rw [hD] at h1
              have := h0 e (stD_mem E 0 σ0 (.inr ⟨j, hj, by rw [Nat.zero_add]; exact h1.symm⟩))
              rw [hcf] at this; exact this
      have hnext : ∀ a' w', S M w0 a' w' n I ((d, c, y) :: stD (fun j => listed.getD j false) 0 E σ0) Df → wpAny P .any ops.toArray Q fuel (listed.setIfInBounds i true) a' w' := by
        intro a' w' hk'
        have hget : ∀ j, (listed.setIfInBounds i true).getD j false = if j = i then true else listed.getD j false := by
          intro j
          simp only [Array.getD_eq_getD_getElem?, Array.getElem?_setIfInBounds]
          by_cases h : i = j
          · subst h; simp [hilt']
          · simp [h, Ne.symm h]
        refine ih _ a' w' (by simpa using hs) ?_ ?_ ⟨hk'.own, hk'.kn.of_look fun t x hx => ?_⟩
        · rw [Array.toList_setIfInBounds]
          have hli : listed.toList[i]? = some false := by
            have : listed[i]? = some false := by
              simp [Array.getElem?_eq_getElem hilt'] 
              simpa [Array.getD_eq_getD_getElem?, hilt'] using hiF
            simpa using this
          have hcount : ∀ (l : List Bool) (i : Nat), l[i]? = some false → (l.set i true).count false + 1 = l.count false := by
            intro l
            induction l with
            | nil => intro i h; simp at h
            | cons b l ihl =>
              intro i h
              cases i with
              | zero =>
                simp only [List.getElem?_cons_zero, Option.some.injEq] at h
                subst h
                simp
              | succ i =>
                have := ihl i (by simpa using h)
                simp only [List.set_cons_succ, List.count_cons]
                omega
          have := hcount _ _ hli
          omega
        · intro j o' ho'' hD e he
          rw [hget] at hD ⊢
          by_cases hji : j = i
          · subst hji
            rw [ho'] at ho''; injection ho'' with ho''; subst ho''
            split
            · rfl
            · exact hed e he
          · rw [if_neg hji] at hD
            split
            · rfl
            · exact hcl j o' ho'' hD e he
        · rcases look_stD (D := fun j => (listed.setIfInBounds i true).getD j false) (t := t) E 0 σ0 with ⟨j, e, h1, h2, h3, h4, h5⟩ | ⟨h1, h2⟩
          · simp only [Nat.zero_add] at h2 h4
            by_cases htd : t = d
            · subst htd
              have hji : j = i := by
                false_or_by_contra
                rename_i hne
                rw [hget, if_neg hne] at h2
                have h6 := hB j e h1 hne h3
                rw [h2] at h6
                have hlt : j < i := by simpa using h6.symm
                exact h4 i _ hlt hEi (by rw [hget, if_pos rfl]) rfl
              subst hji
              rw [hEi] at h1
              injection h1 with h1
              rw [h5, ← h1] at hx
              simp only [look, Nat.beq_refl, cond_true]
              exact hx
            · have hcongr : look (stD (fun j => (listed.setIfInBounds i true).getD j false) 0 E σ0) t = look (stD (fun j => listed.getD j false) 0 E σ0) t := by
                refine look_stD_congr fun j e he het => ?_
                rw [hget]
                by_cases hji : j = i
                · subst hji; rw [hEi] at he; injection he with he; subst he; exact absurd het.symm htd
                · rw [if_neg hji]
              have hb : Nat.beq d t = false := by
                cases hb : Nat.beq d t with
                | false => rfl
                | true => exact absurd (Nat.eq_of_beq_eq_true hb).symm htd
              simp only [look, hb, cond_false]
              rw [← hcongr]; exact hx
          · simp only [Nat.zero_add] at h1
            have htd : ¬ t = d := by
              rintro rfl
              exact h1 i _ hEi (by rw [hget, if_pos rfl]) rfl
            have hcongr : look (stD (fun j => (listed.setIfInBounds i true).getD j false) 0 E σ0) t = look (stD (fun j => listed.getD j false) 0 E σ0) t := by
              refine look_stD_congr fun j e he het => ?_
              rw [hget]
              by_cases hji : j = i
              · subst hji; rw [hEi] at he; injection he with he; subst he; exact absurd het.symm htd
              · rw [if_neg hji]
            have hb : Nat.beq d t = false := by
              cases hb : Nat.beq d t with
              | false => rfl
              | true => exact absurd (Nat.eq_of_beq_eq_true hb).symm htd
            simp only [look, hb, cond_false]
            rw [← hcongr]; exact hx
      unfold wpOp
      rw [ho]
      simp only
      have hexec : holds a c → Region.wanted o (yielded ops.toArray a.tmps) = true → (if Region.wanted o (yielded ops.toArray a.tmps) = true then o.wp P a w (wpAny P .any ops.toArray Q fuel (listed.setIfInBounds i true)) Q ∨ (o.asks P a w ∧ LetsOut Q) else wpAny P .any ops.toArray Q fuel (listed.setIfInBounds i true) (a.put o.dst undef) w) := by
        intro hh hw
        rw [if_pos hw]
        left
        refine (hop.f a w hko hh).wp hk.own fun v w' hnw hv => ?_
        rw [hop.dst]
        have hk' := hk.fresh hnw
        exact hnext _ _ ⟨hk'.own, hk'.kn.put hop.lt hfree hop.cfree (fun _ => hv) (fun h' => absurd hh h')⟩
      rcases hop.chain with ⟨hg, rfl⟩ | ⟨j, want, g, b, c0, hg, hj, hgn, hl, rfl⟩
      · exact hexec (holds_nil a) (by simp [Region.wanted, hg])
      · have hgl : g ∈ looks ops o := by
          have := hop.cl
          rw [List.all_eq_true] at this
          exact any_beq.1 (this (g, want) List.mem_cons_self)
        have hl' : look (stD (fun j => listed.getD j false) 0 E σ0) g = some (c0, .lit (.bool b)) := by rw [hlook g hgl]; exact hl
        obtain ⟨hw1, hw2⟩ := wanted_iff (ops := ops.toArray) hk.kn hg (by simpa using hj) hgn hl'
        by_cases hh : holds a ((g, want) :: c0)
        · exact hexec hh (hw1.2 hh)
        · rw [if_neg (by rw [hw2 hh]; simp), hop.dst]
          exact hnext _ _ ⟨hk.own, hk.kn.put hop.lt hfree hop.cfree (fun h' => absurd h' hh) (fun _ => rfl)⟩
theorem getD_repl (k j : Nat) : (Array.replicate k false).getD j false = false := by
  rw [Array.getD_eq_getD_getElem?, Array.getElem?_replicate]; split <;> rfl
theorem wdraw1 {id : Nat} {ops : List Oper} {a : Act} {w : World} {σ : St} (hm : P.follows .mixedOrders = true) (hord : ordOk ops = true) (hk : S M w0 a w n I σ Df)
    (h : wpF P ops M w0 Df n I ops σ fun σ' => ∀ a w, S M w0 a w n I σ' Df → Q .normal a w) : (Code.region id ops.toArray true).wp P Q a w := by
  obtain ⟨E, hl, hE, hQ⟩ := wpF_list h
  refine wp_region_any hm ?_
  have hw : New w { w with drawn := w.drawn + 1 } := ⟨rfl, rfl, rfl, Nat.le_refl _, fun _ _ _ => rfl⟩
  refine wpAny_fun hord hl hE hQ _ _ a _ (by simp) (by simp) ?_ ?_
  · intro j o _ hD
    rw [getD_repl] at hD; cases hD
  · have : stD (fun j => (Array.replicate ops.toArray.size false).getD j false) 0 E σ = σ := by
      rw [stD_congr E 0 σ (D' := fun _ => false) fun j _ => getD_repl _ _]
      exact stD_false _ _ _
    rw [this]
    exact hk.fresh hw
theorem wdraw {id : Nat} {ops : List Oper} {y : Code} {a : Act} {w : World} {σ : St} (hm : P.follows .mixedOrders = true) (hord : ordOk ops = true) (hk : S M w0 a w n I σ Df)
    (h : wpF P ops M w0 Df n I ops σ fun σ' => ∀ a w, S M w0 a w n I σ' Df → y.wp P Q a w) : (Code.seq (.region id ops.toArray true) y).wp P Q a w :=
  wp_seq (wdraw1 hm hord hk h)
theorem dstep {ops rest : List Oper} {o : Oper} {σ : St} {K : St → Prop} (d : Nat) (c : Ch) (y : AV) (h : Hop P ops M w0 Df n I σ o d c y) (h' : wpF P ops M w0 Df n I rest ((d, c, y) :: σ) K) : wpF P ops M w0 Df n I (o :: rest) σ K := ⟨d, c, y, h, h'⟩
theorem dfun {ops rest : List Oper} {o : Oper} {σ : St} {K : St → Prop} {d : Nat} {y : AV} (hd : o.dst = some d) (hn : Nat.blt d n = true) (hf : chFree σ d = true) (hg : o.guard = none)
    (hF : ∀ a w, S M w0 a w n I (only (looks ops o) σ) Df → Fun P (okM M I) o a w y) (h' : wpF P ops M w0 Df n I rest ((d, [], y) :: σ) K) : wpF P ops M w0 Df n I (o :: rest) σ K :=
  dstep d [] y ⟨hd, hn, hf, rfl, .inl ⟨hg, rfl⟩, rfl, fun a w hk _ => hF a w hk⟩ h'
theorem dfunG {ops rest : List Oper} {o : Oper} {σ : St} {K : St → Prop} {d j g : Nat} {want b : Bool} {c0 : Ch} {y : AV} (hd : o.dst = some d) (hn : Nat.blt d n = true) (hf : chFree σ d = true) (hcf : cFree ((g, want) :: c0) d = true)
    (hg : o.guard = some (j, want)) (hj : (ops[j]?).bind (·.dst) = some g) (hgn : Nat.blt g n = true) (hl : look σ g = some (c0, .lit (.bool b))) (hcl : (((g, want) :: c0 : Ch).all fun p => (looks ops o).any (Nat.beq p.1)) = true)
    (hF : ∀ a w, S M w0 a w n I (only (looks ops o) σ) Df → holds a ((g, want) :: c0) → Fun P (okM M I) o a w y) (h' : wpF P ops M w0 Df n I rest ((d, (g, want) :: c0, y) :: σ) K) : wpF P ops M w0 Df n I (o :: rest) σ K :=
  dstep d _ y ⟨hd, hn, hf, hcf, .inr ⟨j, want, g, b, c0, hg, hj, hgn, hl, rfl⟩, hcl, hF⟩ h'
theorem dend {ops : List Oper} {σ : St} {K : St → Prop} (h : K σ) : wpF P ops M w0 Df n I [] σ K := h
end
end Go.Proofs.YtfbkgaandmebaaaGreat.FW
namespace Go.Proofs.YtfbkgaandmebaaaGreat
variable {Df : List Deferred}
open Go.RowKit
set_option linter.unusedVariables false
namespace FW
section
variable {P : Program} {M : Nat → Prop} {w0 : Bs} {w : World} {a : Act} {n : Nat} {I : List It} {σ : St} {c : Ch} {ty : TypeId} {pos : String} {aft : Array Edge} {x : Operand} {u : AV} {ops : Array Oper} {Q : Exit → Act → World → Prop} {rest : List Oper} {d : Nat} {cs : List AV}
theorem l_box {t : TypeId} (hk : S M w0 a w n I σ Df) (hn : Nat.blt d n = true) (hf : chFree σ d = true) (hx : opvc σ [] x = some u) (hw : wholeA u = true) (hcs : cellsA u = cs)
    (h : ∀ b a' w', S M w0 a' w' n (blk b t cs :: I) ((d, [], .lit (.pointer (some ⟨b, 0, none⟩))) :: σ) Df → wpList P ops Q rest a' w') :
    wpList P ops Q (⟨some d, .box t x, ty, pos, aft, none⟩ :: rest) a w := by
  subst hcs
  obtain ⟨hL, _⟩ := rep_cells (hk.kn.rep (holds_nil a) hx) hw
  have hr : (execOp a.eval ⟨some d, .box t x, ty, pos, aft, none⟩).run P w = .ok (.value (.pointer (some ⟨w.heap.size, 0, none⟩))) (w.alloc (.cells (a.eval x).cells t)) := by
    simp [execOp, Instr.box, newVar, newRow]
  refine leff hk rfl rfl hn hf hr ?_ (rep_lit rfl) (fun a' hk' => h _ _ _ hk')
  have hfoot : ∀ k, (blk w.heap.size t (cellsA u)).foot k → w.heap.size ≤ k ∧ k < (w.alloc (.cells (a.eval x).cells t)).heap.size := by
    intro k hk
    have hk' : k = w.heap.size := hk
    subst hk'
    simp
  exact hk.push (New.alloc w _) ⟨(a.eval x).cells, heap_alloc_new w _, RepL.go (Goes.push (it' := blk w.heap.size t (cellsA u)) (New.alloc w _) hfoot) _ _ hL⟩ hfoot
theorem S.squash {t : Nat} {x x' : AV} {c' : Ch} (hk : S M w0 a w n I ((t, [], x) :: (t, c', x') :: σ) Df) : S M w0 a w n I ((t, [], x) :: σ) Df := by
  refine ⟨hk.own, hk.kn.of_look fun i z hz => ?_⟩
  simp only [look] at hz ⊢
  cases hb : Nat.beq t i with
  | true => rw [hb] at hz; exact hz
  | false => rw [hb] at hz; simpa using hz
theorem S.freezeR {α : Type} {ad : Option Addr} {cap sz j : Nat} {e : TypeId} {f : α → List AV} {l : List α} {R : List α → List (List AV)} {t : Nat} {I' : List It} (hR : ∀ l, R l = l.map f) (hk : S M w0 a w n I σ Df) (hj : I[j]? = some (orow ad cap e sz f l)) (hl : look σ t = some ([], .lit (.slice ad l.length cap))) (h : I.eraseIdx j = I') : S M w0 a w n I' ((t, [], .row (R l)) :: σ) Df := by
  rw [hR]; exact S.freezeI hk hj hl h
def nilA (keep : List Nat) (vs : List AV) : List AV := vs.zipIdx.map fun p => match p.1 with
  | .lit (.slice none 0 0) => bif keep.any (Nat.beq p.2) then .lit (.slice none 0 0) else .row []
  | v => v
theorem repL_nilA {ok : Nat → Prop} {w : World} {keep : List Nat} : ∀ (cs : List AV) (vs : List Value) (k : Nat), RepL ok w cs vs → RepL ok w ((cs.zipIdx k).map fun p => match p.1 with
    | .lit (.slice none 0 0) => bif keep.any (Nat.beq p.2) then .lit (.slice none 0 0) else .row []
    | v => v) vs
  | [], vs, k, h => by simpa [RepL] using h
  | c :: cs, vs, k, h => by
    simp only [RepL] at h
    obtain ⟨v, r, rfl, h1, h2⟩ := h
    rw [List.zipIdx_cons, List.map_cons]
    refine repL_cons ?_ (repL_nilA cs r (k + 1) h2)
    split
    · rename_i hv
      have hv' : c = .lit (.slice none 0 0) := hv
      subst hv'
      simp only [Rep] at h1
      subst h1
      cases keep.any (Nat.beq k) with
      | true => exact rep_lit rfl
      | false => exact rep_nil
    · exact h1
theorem f_buildN {dst : Option Tmp} {g : Option (Nat × Bool)} {t : TypeId} {ps : List (Nat × Operand)} {xs : List (Nat × AV)} {cs cs' : List AV} (keep : List Nat) (hk : S M w0 a w n I σ Df) (hc : holds a c) (hx : partsA σ c ps = some xs) (h : builtA P t xs = some cs) (h' : nilA keep cs = cs') :
    Fun P (okM M I) ⟨dst, .build t ps.toArray, ty, pos, aft, g⟩ a w (.agg cs') := by
  subst h'
  obtain ⟨arr, h1, h2⟩ := rep_built (rep_parts hk.kn hc hx) h
  refine .inl ⟨.agg arr, w, ?_, New.refl w, by simp only [Rep]; exact ⟨arr, rfl, repL_nilA _ _ 0 h2⟩⟩
  simp only [execOp, Sem.run_bind]
  rw [run_build w t _ arr (by simpa using h1)]
  simp
end
end FW
end Go.Proofs.YtfbkgaandmebaaaGreat

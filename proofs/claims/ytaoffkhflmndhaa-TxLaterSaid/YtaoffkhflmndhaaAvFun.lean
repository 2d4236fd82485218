/- Operations that turn nothing: steps over abstract values; calls by their contracts; branches, loops, ends of functions. -/
import Derived.Test.YtaoffkhflmndhaaAvOps
import Derived.Deep.LoopGhost
import Derived.Laws.CopyRow
import Derived.Laws.Tables
import Derived.Laws.Rows
import Derived.Laws.ResultCell
namespace Go.Proofs.Ytaoffkhflmndhaa.FW
variable {Df : List Deferred}
open Go.RowKit
set_option linter.unusedVariables false

/-- An operation of which comes a value that is so, in a world in which all that was there is as it was. -/
def Fun (P : Program) (ok : Nat → Prop) (o : Oper) (a : Act) (w : World) (y : AV) : Prop :=
  (∃ v w', (execOp a.eval o).run P w = .ok (.value v) w' ∧ New w w' ∧ Rep ok w' y v) ∨
  (∃ f vs xs, (execOp a.eval o).run P w = .ok (.enter f vs) w ∧ RepL ok w xs vs.toList ∧ Ok P f xs y)

theorem Goes.nn (ok : Nat → Prop) (w : World) : Goes ok (fun b => ¬ ¬ ok b) w w := fun b h _ => ⟨fun hn => hn h, rfl⟩
theorem Goes.nn' (ok : Nat → Prop) (w : World) : Goes (fun b => ¬ ¬ ok b) ok w w := fun b h _ => ⟨Classical.byContradiction h, rfl⟩

section
variable {P : Program} {M : Nat → Prop} {w0 : Bs} {w : World} {a : Act} {n : Nat} {I : List It} {σ : St} {o : Oper} {ops : Array Oper} {Q : Exit → Act → World → Prop} {rest : List Oper} {d : Nat} {y : AV} {c : Ch}

theorem Fun.wp (hI : Own M w0 w I) (hF : Fun P (okM M I) o a w y) {K : Act → World → Prop} (h : ∀ v w', New w w' → Rep (okM M I) w' y v → K (a.put o.dst v) w') : o.wp P a w K Q := by
  unfold Oper.wp
  rcases hF with ⟨v, w', hr, hn, hv⟩ | ⟨f, vs, xs, hr, hx, hok⟩
  · rw [hr, Oper.upon_value]
    exact h v w' hn hv
  · rw [hr, Oper.upon_enter]
    refine (hok (fun b => ¬ okM M I b) w vs hI.bound (RepL.go (Goes.nn _ w) xs _ hx)).mono ?_
    rintro e w' ⟨v, rfl, hn, hv⟩
    exact h v w' hn (Rep.go (Goes.nn' _ w') y v hv)

theorem lfun (hk : S M w0 a w n I σ Df) (hg : o.guard = none) (hd : o.dst = some d) (hn : Nat.blt d n = true) (hf : chFree σ d = true) (hF : Fun P (okM M I) o a w y)
    (h : ∀ a' w', S M w0 a' w' n I ((d, [], y) :: σ) Df → wpList P ops Q rest a' w') : wpList P ops Q (o :: rest) a w := by
  unfold wpList
  rw [if_pos (by simp [Region.wanted, hg])]
  left
  refine hF.wp hk.own fun v w' hw hv => ?_
  rw [hd]
  have hk' := hk.fresh hw
  exact h _ _ ⟨hk'.own, hk'.kn.put hn hf rfl (fun _ => hv) (fun hh => absurd (holds_nil a) hh)⟩

theorem wanted_iff {ok : Nat → Prop} (hk : Knows ok a w n σ Df) {j g : Nat} {want b : Bool} {c0 : Ch} (hg : o.guard = some (j, want)) (hj : (ops[j]?).bind (·.dst) = some g) (hn : Nat.blt g n = true) (hl : look σ g = some (c0, .lit (.bool b))) :
    (Region.wanted o (yielded ops a.tmps) = true ↔ holds a ((g, want) :: c0)) ∧ (¬ holds a ((g, want) :: c0) → Region.wanted o (yielded ops a.tmps) = false) := by
  have hlt : g < a.tmps.size := by
    rw [hk.size]
    exact Nat.le_of_ble_eq_true hn
  have h0 := hk.ent _ _ _ hl
  have h01 : holds a c0 → a.tmps.getD g undef = .bool b := fun hh => by simpa [Rep] using h0.1 hh
  have hy : yielded ops a.tmps j = match a.tmps.getD g undef with | .bool b => some b | _ => none := by
    unfold yielded
    rw [hj]
    simp [Array.getD_eq_getD_getElem?, hlt]
    cases a.tmps[g] <;> rfl
  have key : Region.wanted o (yielded ops a.tmps) = true ↔ holds a ((g, want) :: c0) := by
    unfold Region.wanted
    rw [hg]
    simp only [hy]
    by_cases hh : holds a c0
    · rw [h01 hh]
      simp only [beq_iff_eq, Option.some.injEq]
      constructor
      · rintro rfl p hp
        rcases List.mem_cons.1 hp with rfl | hp
        · exact h01 hh
        · exact hh p hp
      · intro h
        have := h (g, want) List.mem_cons_self
        rw [h01 hh] at this
        injection this
    · rw [h0.2 hh]
      constructor
      · intro h; simp [undef] at h
      · intro h
        exact absurd (fun p hp => h p (List.mem_cons_of_mem _ hp)) hh
  refine ⟨key, fun h => ?_⟩
  cases hw : Region.wanted o (yielded ops a.tmps) with
  | false => rfl
  | true => exact absurd (key.1 hw) h

theorem lfunG (hk : S M w0 a w n I σ Df) {j g : Nat} {want b : Bool} {c0 : Ch} (hg : o.guard = some (j, want)) (hj : (ops[j]?).bind (·.dst) = some g) (hgn : Nat.blt g n = true) (hl : look σ g = some (c0, .lit (.bool b)))
    (hd : o.dst = some d) (hn : Nat.blt d n = true) (hf : chFree σ d = true) (hcf : cFree ((g, want) :: c0) d = true)
    (hF : holds a ((g, want) :: c0) → Fun P (okM M I) o a w y)
    (h : ∀ a' w', S M w0 a' w' n I ((d, (g, want) :: c0, y) :: σ) Df → wpList P ops Q rest a' w') : wpList P ops Q (o :: rest) a w := by
  obtain ⟨hw1, hw2⟩ := wanted_iff hk.kn hg hj hgn hl
  unfold wpList
  by_cases hh : holds a ((g, want) :: c0)
  · rw [if_pos (hw1.2 hh)]
    left
    refine (hF hh).wp hk.own fun v w' hw hv => ?_
    rw [hd]
    have hk' := hk.fresh hw
    exact h _ _ ⟨hk'.own, hk'.kn.put hn hf hcf (fun _ => hv) (fun h' => absurd hh h')⟩
  · rw [if_neg (by rw [hw2 hh]; simp), hd]
    exact h _ _ ⟨hk.own, hk.kn.put hn hf hcf (fun h' => absurd h' hh) (fun _ => rfl)⟩

/-- An operation that turns what is owned. -/
theorem leff {v : Value} {w' : World} {I' : List It} (hk : S M w0 a w n I σ Df) (hg : o.guard = none) (hd : o.dst = some d) (hn : Nat.blt d n = true) (hf : chFree σ d = true)
    (hr : (execOp a.eval o).run P w = .ok (.value v) w') (hk' : S M w0 a w' n I' σ Df) (hv : Rep (okM M I') w' y v) (h : ∀ a', S M w0 a' w' n I' ((d, [], y) :: σ) Df → wpList P ops Q rest a' w') : wpList P ops Q (o :: rest) a w := by
  unfold wpList
  rw [if_pos (by simp [Region.wanted, hg])]
  left
  unfold Oper.wp
  rw [hr, Oper.upon_value, hd]
  exact h _ ⟨hk'.own, hk'.kn.put hn hf rfl (fun _ => hv) (fun hh => absurd (holds_nil a) hh)⟩
theorem lskip {w' : World} {I' : List It} (hk : S M w0 a w n I σ Df) (hg : o.guard = none) (hd : o.dst = none)
    (hr : (execOp a.eval o).run P w = .ok .skip w') (hk' : S M w0 a w' n I' σ Df) (h : S M w0 a w' n I' σ Df → wpList P ops Q rest a w') : wpList P ops Q (o :: rest) a w := by
  unfold wpList
  rw [if_pos (by simp [Region.wanted, hg])]
  left
  unfold Oper.wp
  rw [hr, Oper.upon_skip, hd]
  exact h hk'
/-- A call that turns what is owned. -/
theorem leffcall {f : FuncId} {args : Array Value} {R : Value → World → Prop} (hk : S M w0 a w n I σ Df) (hg : o.guard = none) (hd : o.dst = some d) (hn : Nat.blt d n = true) (hf : chFree σ d = true)
    (hr : (execOp a.eval o).run P w = .ok (.enter f args) w) (hc : Calls P f args w fun e w' => ∃ v, e = .returned v ∧ R v w')
    (hR : ∀ v w', R v w' → ∃ I' y, S M w0 a w' n I' σ Df ∧ Rep (okM M I') w' y v ∧ ∀ a', S M w0 a' w' n I' ((d, [], y) :: σ) Df → wpList P ops Q rest a' w') : wpList P ops Q (o :: rest) a w := by
  unfold wpList
  rw [if_pos (by simp [Region.wanted, hg])]
  left
  unfold Oper.wp
  rw [hr, Oper.upon_enter, hd]
  refine hc.mono ?_
  rintro e w' ⟨v, rfl, h⟩
  obtain ⟨I', y, hk', hv, h'⟩ := hR v w' h
  exact h' _ ⟨hk'.own, hk'.kn.put hn hf rfl (fun _ => hv) (fun hh => absurd (holds_nil a) hh)⟩
end

/-! ### Single operations -/
theorem repL_nil {ok : Nat → Prop} {w : World} : RepL ok w [] [] := by simp [RepL]
theorem repL_cons {ok : Nat → Prop} {w : World} {c : AV} {cs : List AV} {v : Value} {vs : List Value} (h : Rep ok w c v) (h' : RepL ok w cs vs) : RepL ok w (c :: cs) (v :: vs) := by
  simp only [RepL]; exact ⟨v, vs, rfl, h, h'⟩
theorem RepL.length {ok : Nat → Prop} {w : World} : ∀ {cs : List AV} {vs : List Value}, RepL ok w cs vs → vs.length = cs.length
  | [], vs, h => by simp only [RepL] at h; subst h; rfl
  | c :: cs, vs, h => by
    simp only [RepL] at h
    obtain ⟨v, r, rfl, _, h2⟩ := h
    simp [RepL.length h2]
theorem RepL.get {ok : Nat → Prop} {w : World} : ∀ {cs : List AV} {vs : List Value}, RepL ok w cs vs → ∀ {i : Nat} {y : AV}, cs[i]? = some y → ∃ v, vs[i]? = some v ∧ Rep ok w y v
  | [], vs, h, i, y, hi => by simp at hi
  | c :: cs, vs, h, i, y, hi => by
    simp only [RepL] at h
    obtain ⟨v, r, rfl, h1, h2⟩ := h
    cases i with
    | zero => simp only [List.getElem?_cons_zero, Option.some.injEq] at hi; subst hi; exact ⟨v, rfl, h1⟩
    | succ i =>
      obtain ⟨u, hu, hr⟩ := RepL.get h2 (i := i) (by simpa using hi)
      exact ⟨u, by simpa using hu, hr⟩
theorem RepL.append {ok : Nat → Prop} {w : World} : ∀ {cs ds : List AV} {vs us : List Value}, RepL ok w cs vs → RepL ok w ds us → RepL ok w (cs ++ ds) (vs ++ us)
  | [], ds, vs, us, h, h' => by simp only [RepL] at h; subst h; exact h'
  | c :: cs, ds, vs, us, h, h' => by
    simp only [RepL] at h
    obtain ⟨v, r, rfl, h1, h2⟩ := h
    exact repL_cons h1 (RepL.append h2 h')
theorem RepL.take {ok : Nat → Prop} {w : World} : ∀ {cs : List AV} {vs : List Value} (k : Nat), RepL ok w cs vs → RepL ok w (cs.take k) (vs.take k)
  | cs, vs, 0, h => by simpa using repL_nil
  | [], vs, k + 1, h => by simp only [RepL] at h; subst h; simpa using repL_nil
  | c :: cs, vs, k + 1, h => by
    simp only [RepL] at h
    obtain ⟨v, r, rfl, h1, h2⟩ := h
    exact repL_cons h1 (RepL.take k h2)
theorem RepL.drop {ok : Nat → Prop} {w : World} : ∀ {cs : List AV} {vs : List Value} (k : Nat), RepL ok w cs vs → RepL ok w (cs.drop k) (vs.drop k)
  | cs, vs, 0, h => by simpa using h
  | [], vs, k + 1, h => by simp only [RepL] at h; subst h; simpa using repL_nil
  | c :: cs, vs, k + 1, h => by
    simp only [RepL] at h
    obtain ⟨v, r, rfl, h1, h2⟩ := h
    simpa using RepL.drop k h2
theorem RepP.get {ok : Nat → Prop} {w : World} : ∀ {cs : List AV} {vs : List Value}, RepP ok w cs vs → ∀ {i : Nat} {y : AV}, cs[i]? = some y → ∃ v, vs[i]? = some v ∧ Rep ok w y v
  | [], vs, h, i, y, hi => by simp at hi
  | c :: cs, vs, h, i, y, hi => by
    simp only [RepP] at h
    obtain ⟨v, r, rfl, h1, h2⟩ := h
    cases i with
    | zero => simp only [List.getElem?_cons_zero, Option.some.injEq] at hi; subst hi; exact ⟨v, rfl, h1⟩
    | succ i =>
      obtain ⟨u, hu, hr⟩ := RepP.get h2 (i := i) (by simpa using hi)
      exact ⟨u, by simpa using hu, hr⟩
theorem RepP.drop {ok : Nat → Prop} {w : World} : ∀ {cs : List AV} {vs : List Value} (k : Nat), RepP ok w cs vs → RepP ok w (cs.drop k) (vs.drop k)
  | cs, vs, 0, h => by simpa using h
  | [], vs, k + 1, h => by simp [RepP]
  | c :: cs, vs, k + 1, h => by
    simp only [RepP] at h
    obtain ⟨v, r, rfl, h1, h2⟩ := h
    simpa using RepP.drop k h2
/-- Of cells that begin so the first ones are just so. -/
theorem RepP.toL {ok : Nat → Prop} {w : World} : ∀ {cs : List AV} {vs : List Value}, RepP ok w cs vs → RepL ok w cs (vs.take cs.length) ∧ cs.length ≤ vs.length
  | [], vs, h => by simp [RepL]
  | c :: cs, vs, h => by
    simp only [RepP] at h
    obtain ⟨v, r, rfl, h1, h2⟩ := h
    obtain ⟨h3, h4⟩ := RepP.toL h2
    exact ⟨by simpa using repL_cons h1 h3, by simp; omega⟩
theorem RepL.toP {ok : Nat → Prop} {w : World} : ∀ {cs : List AV} {vs : List Value} (us : List Value), RepL ok w cs vs → RepP ok w cs (vs ++ us)
  | [], vs, us, h => by simp [RepP]
  | c :: cs, vs, us, h => by
    simp only [RepL] at h
    obtain ⟨v, r, rfl, h1, h2⟩ := h
    simp only [RepP]
    exact ⟨v, r ++ us, rfl, h1, RepL.toP us h2⟩

/-- The elements of a row, each of so many cells. -/
theorem RepR.at {ok : Nat → Prop} {w : World} {sz : Nat} : ∀ {xs : List (List AV)} {vs : List Value}, RepR ok w xs vs → (∀ x ∈ xs, x.length = sz) → ∀ {i : Nat} {x : List AV}, xs[i]? = some x → RepP ok w x (vs.drop (i * sz))
  | [], vs, h, hs, i, x, hi => by simp at hi
  | y :: xs, vs, h, hs, i, x, hi => by
    simp only [RepR] at h
    cases i with
    | zero => simp only [List.getElem?_cons_zero, Option.some.injEq] at hi; subst hi; simpa using h.1
    | succ i =>
      have h1 := RepR.at h.2 (fun x hx => hs x (List.mem_cons_of_mem _ hx)) (i := i) (by simpa using hi)
      rw [List.drop_drop, hs y List.mem_cons_self] at h1
      rwa [Nat.succ_mul, Nat.add_comm]
theorem RepR.drop {ok : Nat → Prop} {w : World} {sz : Nat} : ∀ {xs : List (List AV)} {vs : List Value}, RepR ok w xs vs → (∀ x ∈ xs, x.length = sz) → ∀ (i : Nat), RepR ok w (xs.drop i) (vs.drop (i * sz))
  | [], vs, h, hs, i => by simp [RepR]
  | y :: xs, vs, h, hs, 0 => by simpa using h
  | y :: xs, vs, h, hs, i + 1 => by
    simp only [RepR] at h
    have h1 := RepR.drop h.2 (fun x hx => hs x (List.mem_cons_of_mem _ hx)) i
    rw [List.drop_drop, hs y List.mem_cons_self] at h1
    rw [Nat.succ_mul, Nat.add_comm (i * sz)]
    simpa using h1
theorem RepR.take {ok : Nat → Prop} {w : World} : ∀ {xs : List (List AV)} {vs : List Value} (i : Nat), RepR ok w xs vs → RepR ok w (xs.take i) vs
  | xs, vs, 0, h => by simp [RepR]
  | [], vs, i + 1, h => by simp [RepR]
  | y :: xs, vs, i + 1, h => by
    simp only [RepR] at h
    simp only [List.take_succ_cons, RepR]
    exact ⟨h.1, RepR.take i h.2⟩

/-- A struct or an array? -/
def isAggD (d : TypeDesc) : Bool := match d with | .struct _ | .array _ _ => true | _ => false

theorem loadCells_at {P : Program} (w : World) (b off : Nat) (arr : Array Value) (e : TypeId) (fr : Nat × Nat) (vs : List Value) (hh : w.heap[b]? = some (.cells arr e fr)) (hv : ∀ j v, vs[j]? = some v → arr[off + j]? = some v) :
    (loadCells ⟨b, off, none⟩ vs.length).run P w = .ok vs.toArray w := by
  refine run_loadCells_list (P := P) w ⟨b, off, none⟩ vs fun j v hj => ?_
  have hadd : (⟨b, off, none⟩ : Addr).add j = ⟨b, off + j, none⟩ := by unfold Addr.add; split <;> simp_all
  rw [hadd, cell_of_row w b (off + j) arr e fr hh]
  exact hv j v hj

section
variable {P : Program} {M : Nat → Prop} {w0 : Bs} {w : World} {a : Act} {n : Nat} {I : List It} {σ : St} {c : Ch} {dst : Option Tmp} {ty : TypeId} {pos : String} {aft : Array Edge} {g : Option (Nat × Bool)} {x y : Operand} {u : AV}

theorem f_pure {o : Oper} {v : Value} (h : PureOp P a o v) : Fun P (okM M I) o a w (.lit v) := .inl ⟨v, w, h w, New.refl w, rep_lit rfl⟩
theorem f_move (hk : S M w0 a w n I σ Df) (hc : holds a c) (hx : opvc σ c x = some u) : Fun P (okM M I) ⟨dst, .move x, ty, pos, aft, g⟩ a w u :=
  .inl ⟨a.eval x, w, by simp [execOp], New.refl w, hk.kn.rep hc hx⟩
theorem f_assign (hk : S M w0 a w n I σ Df) (hc : holds a c) (hx : opvc σ c x = some u) : Fun P (okM M I) ⟨dst, .assign x, ty, pos, aft, g⟩ a w u :=
  .inl ⟨a.eval x, w, by simp [execOp], New.refl w, hk.kn.rep hc hx⟩
theorem f_extract {cs : List AV} {i : Nat} (hk : S M w0 a w n I σ Df) (hc : holds a c) (hx : opvc σ c x = some (.tup cs)) (hi : cs[i]? = some u) : Fun P (okM M I) ⟨dst, .extract x i, ty, pos, aft, g⟩ a w u := by
  have h := hk.kn.rep hc hx
  simp only [Rep] at h
  obtain ⟨vs, hv, hL⟩ := h
  obtain ⟨v, hv', hr⟩ := hL.get hi
  have hv'' : vs[i]? = some v := by simpa using hv'
  exact .inl ⟨v, w, by simp [execOp, hv, Instr.extract, hv''], New.refl w, hr⟩

/-! Structs. -/
def cellsA : AV → List AV
  | .agg cs => cs
  | x => [x]
def oneA : AV → Bool
  | .lit v => v.oneCell'
  | .row _ | .ref _ | .clo _ _ => true
  | _ => false
/-- A whole value: a struct, or one cell. -/
def wholeA : AV → Bool
  | .agg cs => cs.all oneA
  | x => oneA x
theorem rep_one {ok : Nat → Prop} {x : AV} {v : Value} (h : Rep ok w x v) (h1 : oneA x = true) : v.oneCell' = true ∧ v.cells = #[v] := by
  cases x with
  | lit u =>
    simp only [Rep] at h
    subst h
    simp only [oneA] at h1
    exact ⟨h1, by cases v <;> first | rfl | (simp [Value.oneCell'] at h1)⟩
  | row xs => simp only [Rep] at h; obtain ⟨a, cap, rfl, _⟩ := h; exact ⟨rfl, rfl⟩
  | ref cs => simp only [Rep] at h; obtain ⟨b, off, arr, e, fr, rfl, _⟩ := h; exact ⟨rfl, rfl⟩
  | clo f cs => simp only [Rep] at h; obtain ⟨vs, rfl, _⟩ := h; exact ⟨rfl, rfl⟩
  | agg cs => simp [oneA] at h1
  | tup cs => simp [oneA] at h1
theorem repL_one {ok : Nat → Prop} : ∀ {cs : List AV} {vs : List Value}, RepL ok w cs vs → cs.all oneA = true → ∀ v ∈ vs, v.oneCell' = true
  | [], vs, h, _ => by simp only [RepL] at h; subst h; simp
  | c :: cs, vs, h, ha => by
    simp only [RepL] at h
    obtain ⟨v, r, rfl, h1, h2⟩ := h
    simp only [List.all_cons, Bool.and_eq_true] at ha
    intro u hu
    rcases List.mem_cons.1 hu with rfl | hu
    · exact (rep_one h1 ha.1).1
    · exact repL_one h2 ha.2 u hu
theorem rep_cells {ok : Nat → Prop} {x : AV} {v : Value} (h : Rep ok w x v) (h1 : wholeA x = true) : RepL ok w (cellsA x) v.cells.toList ∧ ∀ u ∈ v.cells.toList, u.oneCell' = true := by
  cases x with
  | agg cs =>
    simp only [Rep] at h
    obtain ⟨vs, rfl, hL⟩ := h
    exact ⟨hL, repL_one hL h1⟩
  | lit u => obtain ⟨h2, h3⟩ := rep_one h h1; rw [h3]; exact ⟨repL_cons h repL_nil, by simpa using h2⟩
  | row xs => obtain ⟨h2, h3⟩ := rep_one h h1; rw [h3]; exact ⟨repL_cons h repL_nil, by simpa using h2⟩
  | ref cs => obtain ⟨h2, h3⟩ := rep_one h h1; rw [h3]; exact ⟨repL_cons h repL_nil, by simpa using h2⟩
  | clo f cs => obtain ⟨h2, h3⟩ := rep_one h h1; rw [h3]; exact ⟨repL_cons h repL_nil, by simpa using h2⟩
  | tup cs => simp [wholeA, oneA] at h1

def putA (off : Nat) (x cells : List AV) : List AV := cells.take off ++ x ++ cells.drop (off + x.length)
def fillA (place : Nat → Option (Nat × Nat)) (cells : List AV) : List (Nat × AV) → Option (List AV)
  | [] => some cells
  | (i, v) :: rest =>
    match place i with
    | none => none
    | some (off, size) =>
      bif Nat.beq (cellsA v).length size && Nat.ble (off + size) cells.length && wholeA v then fillA place (putA off (cellsA v) cells) rest else none

theorem foldl_put (vs : List Value) : ∀ (k off : Nat) (cells : Array Value), off + k + vs.length ≤ cells.size →
    ((vs.zipIdx k).foldl (fun cs (p : Value × Nat) => cs.setIfInBounds (off + p.2) p.1) cells).toList = cells.toList.take (off + k) ++ vs ++ cells.toList.drop (off + k + vs.length) := by
  induction vs with
  | nil => intro k off cells h; simp
  | cons v vs ih =>
    intro k off cells h
    simp only [List.length_cons] at h
    rw [List.zipIdx_cons, List.foldl_cons, ih (k + 1) off _ (by simp; omega)]
    simp only [Array.toList_setIfInBounds, List.length_cons]
    have hl : cells.toList.length = cells.size := Array.length_toList
    generalize cells.toList = l at hl
    have e1 : (l.set (off + k) v).take (off + (k + 1)) = l.take (off + k) ++ [v] := by
      rw [List.take_set, show off + (k + 1) = (off + k) + 1 from rfl, List.take_succ_eq_append_getElem (by omega)]
      rw [List.set_append_right _ _ (by simp; omega)]
      have : (List.take (off + k) l).length = off + k := by simp; omega
      simp [this]
    have e2 : (l.set (off + k) v).drop (off + (k + 1) + vs.length) = l.drop (off + k + (vs.length + 1)) := by
      rw [List.drop_set_of_lt (by omega)]
      congr 1; omega
    rw [e1, e2]
    simp

/-- Parts, each by its place, and their values. -/
inductive RepParts (ok : Nat → Prop) (w : World) : List (Nat × AV) → List (Nat × Value) → Prop where
  | nil : RepParts ok w [] []
  | cons {i : Nat} {x : AV} {v : Value} {xs : List (Nat × AV)} {vs : List (Nat × Value)} (h : Rep ok w x v) (t : RepParts ok w xs vs) : RepParts ok w ((i, x) :: xs) ((i, v) :: vs)

theorem rep_fill {ok : Nat → Prop} {place : Nat → Option (Nat × Nat)} : ∀ {parts : List (Nat × AV)} {vals : List (Nat × Value)} {cs : List AV} {cells : Array Value} {out : List AV},
    RepParts ok w parts vals → RepL ok w cs cells.toList → fillA place cs parts = some out → ∃ arr, Instr.fill place cells vals = some arr ∧ RepL ok w out arr.toList
  | [], _, cs, cells, out, hp, hc, h => by
    cases hp
    simp only [fillA, Option.some.injEq] at h
    subst h
    exact ⟨cells, rfl, hc⟩
  | (i, x) :: parts, _, cs, cells, out, hp, hc, h => by
    cases hp with
    | cons hx ht =>
    rename_i v vs
    simp only [fillA] at h
    split at h
    · cases h
    · rename_i off size hpl
      cases hb : (Nat.beq (cellsA x).length size && Nat.ble (off + size) cs.length && wholeA x) with
      | false => simp [hb] at h
      | true =>
        simp only [hb, cond_true] at h
        simp only [Bool.and_eq_true] at hb
        obtain ⟨⟨hb1, hb2⟩, hb3⟩ := hb
        have hb1 : (cellsA x).length = size := Nat.eq_of_beq_eq_true hb1
        have hb2 : off + size ≤ cs.length := Nat.le_of_ble_eq_true hb2
        obtain ⟨hL, _⟩ := rep_cells hx hb3
        have hvl : v.cells.size = size := by rw [← hb1, ← hL.length]; simp
        have hcl : cells.size = cs.length := by rw [← hc.length]; simp
        have hput : ((v.cells.zipIdx.foldl (fun cs (p : Value × Nat) => cs.setIfInBounds (off + p.2) p.1) cells)).toList = cells.toList.take off ++ v.cells.toList ++ cells.toList.drop (off + v.cells.toList.length) := by
          have h0 := foldl_put v.cells.toList 0 off cells (by simp; omega)
          rw [← Array.foldl_toList, Array.toList_zipIdx]
          simpa using h0
        have hnew : RepL ok w (putA off (cellsA x) cs) ((v.cells.zipIdx.foldl (fun cs (p : Value × Nat) => cs.setIfInBounds (off + p.2) p.1) cells)).toList := by
          rw [hput]
          unfold putA
          rw [hL.length]
          exact ((hc.take off).append hL).append (hc.drop _)
        obtain ⟨arr, h1, h2⟩ := rep_fill ht hnew h
        refine ⟨arr, ?_, h2⟩
        rw [Instr.fill, hpl]
        simp only
        rw [if_neg]
        · exact h1
        · simp [hvl]; omega

/-- A struct's cells out of its parts. -/
def builtA (P : Program) (t : TypeId) (parts : List (Nat × AV)) : Option (List AV) :=
  match P.info? t, P.underlying t with
  | some it, some (.array _ e) =>
    match it.zero, P.info? e with
    | some z, some ie => fillA (fun i => some (i * ie.size, ie.size)) (z.cells.toList.map .lit) parts
    | _, _ => none
  | some it, some (.struct fields) =>
    match it.zero, fields.toList.mapM (fun f => (P.info? f.type).map fun i => (f.offset, i.size)) with
    | some z, some places => fillA (places.toArray[·]?) (z.cells.toList.map .lit) parts
    | _, _ => none
  | _, _ => none
theorem repL_lits {ok : Nat → Prop} : ∀ (vs : List Value), RepL ok w (vs.map .lit) vs
  | [] => by simp [RepL]
  | v :: vs => repL_cons (rep_lit rfl) (repL_lits vs)
theorem rep_built {ok : Nat → Prop} {t : TypeId} {parts : List (Nat × AV)} {vals : List (Nat × Value)} {out : List AV} (hp : RepParts ok w parts vals) (h : builtA P t parts = some out) : ∃ arr, P.built t vals = some arr ∧ RepL ok w out arr.toList := by
  unfold builtA at h
  unfold Program.built
  split at h
  · rename_i it n e h1 h2
    split at h
    · rename_i z ie h3 h4
      simp only [h1, h2, h3, h4]
      exact rep_fill hp (repL_lits _) h
    · cases h
  · rename_i it fields h1 h2
    split at h
    · rename_i z places h3 h4
      simp only [h1, h2, h3, h4]
      exact rep_fill hp (repL_lits _) h
    · cases h
  · cases h
/-- The parts' values, where a chain of guards holds. -/
def partsA (σ : St) (c : Ch) : List (Nat × Operand) → Option (List (Nat × AV))
  | [] => some []
  | (i, x) :: r => match opvc σ c x, partsA σ c r with
    | some y, some ys => some ((i, y) :: ys)
    | _, _ => none
theorem rep_parts {ok : Nat → Prop} (hk : Knows ok a w n σ Df) (hc : holds a c) : ∀ {ps : List (Nat × Operand)} {xs : List (Nat × AV)}, partsA σ c ps = some xs → RepParts ok w xs (ps.map fun (i, x) => (i, a.eval x))
  | [], xs, h => by simp only [partsA, Option.some.injEq] at h; subst h; exact .nil
  | (i, x) :: r, xs, h => by
    simp only [partsA] at h
    split at h
    · rename_i y ys h1 h2
      simp only [Option.some.injEq] at h
      subst h
      exact .cons (hk.rep hc h1) (rep_parts hk hc h2)
    · cases h
theorem f_build {t : TypeId} {ps : List (Nat × Operand)} {xs : List (Nat × AV)} {cs : List AV} (hk : S M w0 a w n I σ Df) (hc : holds a c) (hx : partsA σ c ps = some xs) (h : builtA P t xs = some cs) :
    Fun P (okM M I) ⟨dst, .build t ps.toArray, ty, pos, aft, g⟩ a w (.agg cs) := by
  obtain ⟨arr, h1, h2⟩ := rep_built (rep_parts hk.kn hc hx) h
  refine .inl ⟨.agg arr, w, ?_, New.refl w, by simp only [Rep]; exact ⟨arr, rfl, h2⟩⟩
  simp only [execOp, Sem.run_bind]
  rw [run_build w t _ arr (by simpa using h1)]
  simp
/-- A struct's field. -/
theorem f_field {t : TypeId} {fs : Array Field} {k sz : Nat} {f : Field} {cs : List AV} {D : TypeDesc} {ys : List AV} (hk : S M w0 a w n I σ Df) (hc : holds a c) (hx : opvc σ c x = some (.agg cs)) (hu : P.underlying t = some (.struct fs)) (hf : fs[k]? = some f)
    (hu' : P.underlying f.type = some D) (hd : isAggD D = true) (hs : (P.info? f.type).map (·.size) = some sz) (hy : (cs.drop f.offset).take sz = ys) :
    Fun P (okM M I) ⟨dst, .field t x k, ty, pos, aft, g⟩ a w (.agg ys) := by
  have h := hk.kn.rep hc hx
  simp only [Rep] at h
  obtain ⟨vs, hv, hL⟩ := h
  obtain ⟨inf, hinf, hsz⟩ := Option.map_eq_some_iff.1 hs
  subst hy
  refine .inl ⟨.agg (vs.extract f.offset (f.offset + sz)), w, ?_, New.refl w, ?_⟩
  · have hagg : (isAgg f.type).run P w = .ok true w := by
      simp only [isAgg, Sem.run_bind, run_underlying hu', Result.andThen_ok]
      cases D <;> simp_all [isAggD]
    simp [execOp, hv, Instr.field, run_underlying hu, hf, part, asAgg, hagg, sizeOf, typeInfo, hinf, hsz]
  · simp only [Rep]
    refine ⟨_, rfl, ?_⟩
    rw [Array.toList_extract, List.extract_eq_take_drop, Nat.add_sub_cancel_left]
    exact (hL.drop f.offset).take sz
theorem f_field1 {t : TypeId} {fs : Array Field} {k : Nat} {f : Field} {cs : List AV} {D : TypeDesc} (hk : S M w0 a w n I σ Df) (hc : holds a c) (hx : opvc σ c x = some (.agg cs)) (hu : P.underlying t = some (.struct fs)) (hf : fs[k]? = some f)
    (hu' : P.underlying f.type = some D) (hd : isAggD D = false) (hy : cs[f.offset]? = some u) :
    Fun P (okM M I) ⟨dst, .field t x k, ty, pos, aft, g⟩ a w u := by
  have h := hk.kn.rep hc hx
  simp only [Rep] at h
  obtain ⟨vs, hv, hL⟩ := h
  obtain ⟨v, hv', hr⟩ := hL.get hy
  have hv'' : vs[f.offset]? = some v := by simpa using hv'
  refine .inl ⟨v, w, ?_, New.refl w, hr⟩
  have hagg : (isAgg f.type).run P w = .ok false w := by
    simp only [isAgg, Sem.run_bind, run_underlying hu', Result.andThen_ok]
    cases D <;> simp_all [isAggD]
  simp [execOp, hv, Instr.field, run_underlying hu, hf, part, asAgg, hagg, hv'']

/-! Rows that are read alone. -/
theorem rep_slice {ok : Nat → Prop} {xs : List (List AV)} {v : Value} (h : Rep ok w (.row xs) v) : ∃ a cap, v = .slice a xs.length cap ∧ xs.length ≤ cap := by
  simp only [Rep] at h; obtain ⟨a, cap, h, hc, _⟩ := h; exact ⟨a, cap, h, hc⟩
theorem f_len {α : Type} {f : α → List AV} {R : List α → List (List AV)} {l : List α} {ts e : TypeId} (hR : ∀ l, R l = l.map f) (hu : P.underlying ts = some (.slice e)) (hk : S M w0 a w n I σ Df) (hc : holds a c) (hx : opvc σ c x = some (.row (R l))) :
    Fun P (okM M I) ⟨dst, .call { callee := .builtin .len, args := #[x], argTypes := #[ts] }, ty, pos, aft, g⟩ a w (.lit (.int .i64 (l.length : Int))) := by
  rw [hR] at hx
  obtain ⟨ad, cap, hv, _⟩ := rep_slice (hk.kn.rep hc hx)
  refine .inl ⟨_, w, ?_, New.refl w, rep_lit rfl⟩
  simp [execOp, resolve, invoke, builtin, hv, Builtin.len_, run_underlying hu, goInt]
theorem add_addr (b off k : Nat) : ((⟨b, off, none⟩ : Addr).add k) = ⟨b, off + k, none⟩ := by unfold Addr.add; split <;> simp_all
/-- The address of an element. -/
theorem f_indexAddr {α : Type} [Inhabited α] {f : α → List AV} {R : List α → List (List AV)} {l : List α} {t e : TypeId} {sz : Nat} {k : IntKind} {i : Int} (hR : ∀ l, R l = l.map f) (hsz : ∀ x, (f x).length = sz) (hk : S M w0 a w n I σ Df) (hc : holds a c)
    (hx : opvc σ c x = some (.row (R l))) (hy : opvc σ c y = some (.lit (.int k i))) (hu : P.underlying t = some (.slice e)) (hs : (P.info? e).map (·.size) = some sz) (hi : asmP σ c (0 ≤ i ∧ i < l.length)) :
    Fun P (okM M I) ⟨dst, .indexAddr t x y, ty, pos, aft, g⟩ a w (.ref (f (l.getD i.toNat default))) := by
  rw [hR] at hx
  have h := hk.kn.rep hc hx
  have hi := asm_out hk.kn hc hi
  simp only [Rep, List.length_map] at h
  obtain ⟨ad, cap, hv, _, h⟩ := h
  have hlt : i.toNat < l.length := by omega
  have hne : ¬ l.map f = [] := by
    intro e0
    rw [List.map_eq_nil_iff] at e0
    subst e0
    simp at hlt
  obtain ⟨b, off, cs, el, fr, rfl, hb, hh, hR⟩ := h.resolve_left hne
  obtain ⟨inf, hinf, hs'⟩ := Option.map_eq_some_iff.1 hs
  refine .inl ⟨.pointer (some ⟨b, off + i.toNat * sz, none⟩), w, ?_, New.refl w, ?_⟩
  · simp [execOp, hv, hk.kn.val hc hy, Instr.indexAt, asIntOf, run_underlying hu, sizeOf, typeInfo, hinf, hs', hi.1, hi.2, add_addr]
  · simp only [Rep]
    refine ⟨b, off + i.toNat * sz, cs, el, fr, rfl, hb, hh, ?_⟩
    have hg : (l.map f)[i.toNat]? = some (f (l.getD i.toNat default)) := by
      simp [List.getD_eq_getElem?_getD, hlt]
    have := RepR.at hR (sz := sz) (by intro x hx'; obtain ⟨y, _, rfl⟩ := List.mem_map.1 hx'; exact hsz y) hg
    rwa [List.drop_drop] at this
/-- The address of a field. -/
theorem f_fieldAddr {t : TypeId} {fs : Array Field} {k : Nat} {f : Field} {cs cs' : List AV} (hk : S M w0 a w n I σ Df) (hc : holds a c) (hx : opvc σ c x = some (.ref cs)) (hu : P.underlying t = some (.struct fs)) (hf : fs[k]? = some f)
    (hs : ((P.info? f.type).map fun i => Nat.beq i.size 0) = some false) (hcs : cs.drop f.offset = cs') : Fun P (okM M I) ⟨dst, .fieldAddr t x k, ty, pos, aft, g⟩ a w (.ref cs') := by
  subst hcs
  have h := hk.kn.rep hc hx
  simp only [Rep] at h
  obtain ⟨b, off, arr, el, fr, hv, hb, hh, hP⟩ := h
  obtain ⟨inf, hinf, hs'⟩ := Option.map_eq_some_iff.1 hs
  have hs0 : ¬ inf.size = 0 := by intro e; rw [e] at hs'; simp at hs'
  refine .inl ⟨.pointer (some ⟨b, off + f.offset, none⟩), w, ?_, New.refl w, ?_⟩
  · simp [execOp, hv, Instr.fieldAt, run_underlying hu, hf, Instr.sureAddr, fieldPlace, sizeOf, typeInfo, hinf, hs0, add_addr]
  · simp only [Rep]
    refine ⟨b, off + f.offset, arr, el, fr, rfl, hb, hh, ?_⟩
    have := hP.drop f.offset
    rwa [List.drop_drop] at this
/-- What stands at an address: one cell. -/
theorem f_load1 {t : TypeId} {cs r : List AV} {D : TypeDesc} (hk : S M w0 a w n I σ Df) (hc : holds a c) (hx : opvc σ c x = some (.ref cs)) (hcs : cs = u :: r) (hu : P.underlying t = some D) (hd : isAggD D = false) :
    Fun P (okM M I) ⟨dst, .load t x, ty, pos, aft, g⟩ a w u := by
  have h := hk.kn.rep hc hx
  subst hcs
  simp only [Rep, RepP] at h
  obtain ⟨b, off, arr, el, fr, hv, hb, hh, v, r', hvr, h1, _⟩ := h
  have hcell : w.cell? ⟨b, off, none⟩ = some v := by
    rw [cell_of_row w b off arr el fr hh]
    have : (arr.toList.drop off)[0]? = some v := by rw [hvr]; rfl
    simpa using this
  refine .inl ⟨v, w, ?_, New.refl w, h1⟩
  have : (isAgg t).run P w = .ok false w := by
    simp only [isAgg, Sem.run_bind, run_underlying hu, Result.andThen_ok]
    cases D <;> simp_all [isAggD]
  simp only [execOp, hv, Instr.loadAt, Instr.sureAddr, Sem.run_bind, Sem.run_pure, Result.andThen_ok, loadVar, this]
  simp [load, Sem.run, hcell]
/-- What stands at an address: a struct. -/
theorem f_load {t : TypeId} {cs ys : List AV} {D : TypeDesc} {sz : Nat} (hk : S M w0 a w n I σ Df) (hc : holds a c) (hx : opvc σ c x = some (.ref cs)) (hu : P.underlying t = some D) (hd : isAggD D = true) (hs : (P.info? t).map (·.size) = some sz)
    (hy : cs.take sz = ys) (hl : Nat.ble sz cs.length = true) : Fun P (okM M I) ⟨dst, .load t x, ty, pos, aft, g⟩ a w (.agg ys) := by
  have h := hk.kn.rep hc hx
  simp only [Rep] at h
  obtain ⟨b, off, arr, el, fr, hv, hb, hh, hP⟩ := h
  obtain ⟨inf, hinf, hs'⟩ := Option.map_eq_some_iff.1 hs
  obtain ⟨hL, hlen⟩ := hP.toL
  have hle := Nat.le_of_ble_eq_true hl
  subst hy
  have hL' := hL.take sz
  rw [List.take_take, Nat.min_eq_left hle] at hL'
  have hlen' : ((arr.toList.drop off).take sz).length = sz := by
    rw [List.length_take]; omega
  refine .inl ⟨.agg ((arr.toList.drop off).take sz).toArray, w, ?_, New.refl w, by simp only [Rep]; exact ⟨_, rfl, by simpa using hL'⟩⟩
  have hagg : (isAgg t).run P w = .ok true w := by
    simp only [isAgg, Sem.run_bind, run_underlying hu, Result.andThen_ok]
    cases D <;> simp_all [isAggD]
  have hld := loadCells_at (P := P) w b off arr el fr ((arr.toList.drop off).take sz) hh (fun j v hj => by
    rw [List.getElem?_take] at hj
    split at hj
    · rw [List.getElem?_drop] at hj; simpa using hj
    · cases hj)
  rw [hlen'] at hld
  simp only [execOp, hv, Instr.loadAt, Instr.sureAddr, Sem.run_bind, Sem.run_pure, Result.andThen_ok, loadVar, hagg, if_true]
  simp [sizeOf, typeInfo, hinf, hs', hld]
/-- A part of a row. -/
theorem rep_part {ok : Nat → Prop} {α : Type} {f : α → List AV} {l : List α} {sz : Nat} (hsz : ∀ x, (f x).length = sz) {ad : Option Addr} {cap : Nat} {v : Value} (h : Rep ok w (.row (l.map f)) v) (hv : v = .slice ad l.length cap) (p q : Nat) (hpq : p ≤ q) (hq : q ≤ l.length) :
    Rep ok w (.row (((l.drop p).take (q - p)).map f)) (.slice (if cap = p then ad else ad.map (·.add (p * sz))) (q - p) (cap - p)) := by
  simp only [Rep] at h ⊢
  obtain ⟨a', cap', hv', hcp, hr⟩ := h
  rw [hv] at hv'
  injection hv' with e1 e2 e3
  subst e1; subst e3
  simp only [List.length_map] at hcp
  have hlen : (((l.drop p).take (q - p)).map f).length = q - p := by simp; omega
  refine ⟨_, _, by rw [hlen], by rw [hlen]; omega, ?_⟩
  by_cases hpq0 : p = q
  · left; subst hpq0; simp
  right
  have hlne : ¬ l.map f = [] := by
    intro e0
    rw [List.map_eq_nil_iff] at e0
    subst e0
    simp at hq; omega
  obtain ⟨b, off, cs, e, fr, rfl, hb, hh, hR⟩ := hr.resolve_left hlne
  refine ⟨b, off + p * sz, cs, e, fr, ?_, hb, hh, ?_⟩
  · rw [if_neg (by omega)]
    simp [add_addr]
  · have h1 := hR.drop (sz := sz) (by intro x hx'; obtain ⟨y, _, rfl⟩ := List.mem_map.1 hx'; exact hsz y) p
    rw [List.drop_drop] at h1
    have h2 := h1.take (q - p)
    rwa [← List.map_drop, ← List.map_take] at h2
/-- xs[p:q], where both stand. -/
theorem f_part {α : Type} {f : α → List AV} {R : List α → List (List AV)} {l : List α} {t e : TypeId} {sz : Nat} {lo hi : Option Operand} {p q : Int} (hR : ∀ l, R l = l.map f) (hsz : ∀ x, (f x).length = sz) (hk : S M w0 a w n I σ Df) (hc : holds a c)
    (hx : opvc σ c x = some (.row (R l))) (hu : P.underlying t = some (.slice e)) (hs : (P.info? e).map (·.size) = some sz)
    (hp : (match lo with | none => some (.lit (.int .i64 0)) | some o => opvc σ c o) = some (.lit (.int .i64 p))) (hq : (match hi with | none => some (.lit (.int .i64 (l.length : Int))) | some o => opvc σ c o) = some (.lit (.int .i64 q)))
    (h : asmP σ c (0 ≤ p ∧ p ≤ q ∧ q ≤ l.length)) :
    Fun P (okM M I) ⟨dst, .slice t x lo hi none, ty, pos, aft, g⟩ a w (.row (R ((l.drop p.toNat).take (q.toNat - p.toNat)))) := by
  rw [hR] at hx
  rw [hR ((l.drop p.toNat).take (q.toNat - p.toNat))]
  have hr := hk.kn.rep hc hx
  obtain ⟨h0, h1, h2⟩ := asm_out hk.kn hc h
  obtain ⟨ad, cap, hv, hcp⟩ := rep_slice hr
  simp only [List.length_map] at hv hcp
  obtain ⟨inf, hinf, hs'⟩ := Option.map_eq_some_iff.1 hs
  have hpart := rep_part hsz hr hv p.toNat q.toNat (by omega) (by omega)
  refine .inl ⟨_, w, ?_, New.refl w, hpart⟩
  have hq' : (match hi.map a.eval with | some v => (Instr.sliceBound v cap .sliceAcap).run P w | none => .ok l.length w) = .ok q.toNat w := by
    cases hi with
    | none => simp only [Option.some.injEq, AV.lit.injEq, Value.int.injEq, true_and] at hq; subst hq; simp
    | some o => simp [hk.kn.val hc hq, Instr.sliceBound, asIntOf, show 0 ≤ q ∧ q ≤ (cap : Int) from by omega]
  have hp' : (match lo.map a.eval with | some v => (Instr.sliceBound v q.toNat .sliceB).run P w | none => .ok 0 w) = .ok p.toNat w := by
    cases lo with
    | none => simp only [Option.some.injEq, AV.lit.injEq, Value.int.injEq, true_and] at hp; subst hp; simp
    | some o =>
      simp [hk.kn.val hc hp, Instr.sliceBound, asIntOf, h0]
      intro hh; omega
  have hb : (Instr.sliceBounds true l.length cap (lo.map a.eval) (hi.map a.eval) none).run P w = .ok (p.toNat, q.toNat, cap) w := by
    cases hi <;> cases lo <;> simp_all [Instr.sliceBounds]
  simp only [execOp, hv, Option.map_none, Instr.sliceAt, Sem.run_bind, run_underlying hu, Result.andThen_ok, Instr.slice, hb, sizeOf, typeInfo]
  simp [hinf, hs']

/-! Calls by contracts. -/
/-- The arguments' values. -/
def argsA (σ : St) (c : Ch) : List Operand → Option (List AV)
  | [] => some []
  | x :: r => match opvc σ c x, argsA σ c r with
    | some y, some ys => some (y :: ys)
    | _, _ => none
theorem rep_args {ok : Nat → Prop} (hk : Knows ok a w n σ Df) (hc : holds a c) : ∀ {ps : List Operand} {xs : List AV}, argsA σ c ps = some xs → RepL ok w xs (ps.map a.eval)
  | [], xs, h => by simp only [argsA, Option.some.injEq] at h; subst h; exact repL_nil
  | x :: r, xs, h => by
    simp only [argsA] at h
    split at h
    · rename_i y ys h1 h2
      simp only [Option.some.injEq] at h
      subst h
      exact repL_cons (hk.rep hc h1) (rep_args hk hc h2)
    · cases h
theorem run_call {f : Operand} {fid : FuncId} {args : Array Operand} {tys : Array TypeId} {vs : Array Value} {fn : Func}
    (hv : a.eval f = .func (.func fid) #[] #[]) (ha : args.map a.eval = vs) (hf : P.funcs[fid]? = some fn) (hb : fn.body.isSome = true) (hn : (fn.name == "runtime.NumGoroutine") = false) :
    (execOp a.eval ⟨dst, .call { callee := .value f, args := args, argTypes := tys }, ty, pos, aft, g⟩).run P w = .ok (.enter fid vs) w := by
  have hb' : ¬ fn.body = none := by cases h : fn.body <;> simp_all
  have hn' : ¬ fn.name = "runtime.NumGoroutine" := by simpa using hn
  simp only [execOp, resolve, hv, ha, Deferred.ofValue, invoke]
  simp [callFunc, hf, hb', hn']
theorem f_call {f : Operand} {fid : FuncId} {ps : List Operand} {tys : Array TypeId} {fn : Func} {xs : List AV} (hk : S M w0 a w n I σ Df) (hc : holds a c) (hv : opvc σ c f = some (.lit (.func (.func fid) #[] #[]))) (hx : argsA σ c ps = some xs)
    (hf : P.funcs[fid]? = some fn) (hb : fn.body.isSome = true) (hn : (fn.name == "runtime.NumGoroutine") = false) (hok : Ok P fid xs u) :
    Fun P (okM M I) ⟨dst, .call { callee := .value f, args := ps.toArray, argTypes := tys }, ty, pos, aft, g⟩ a w u :=
  .inr ⟨fid, _, xs, run_call (hk.kn.val hc hv) rfl hf hb hn, by simpa using rep_args hk.kn hc hx, hok⟩
end

/-! ### Control -/
/-- A call's first frame: its arguments. -/
def start (i : Nat) : List AV → St
  | [] => []
  | v :: r => (i, [], v) :: start (i + 1) r
theorem look_start (vs : List AV) : ∀ (i j : Nat) (c : Ch) (v : AV), look (start i vs) j = some (c, v) → c = [] ∧ i ≤ j ∧ vs[j - i]? = some v := by
  induction vs with
  | nil => intro i j c v h; cases h
  | cons u r ih =>
    intro i j c v h
    simp only [start, look] at h
    cases hb : Nat.beq i j with
    | true =>
      simp only [hb, cond_true, Option.some.injEq, Prod.mk.injEq] at h
      obtain ⟨rfl, rfl⟩ := h
      have : i = j := Nat.eq_of_beq_eq_true hb
      subst this
      simp
    | false =>
      simp only [hb, cond_false] at h
      obtain ⟨h1, h2, h3⟩ := ih _ _ _ _ h
      refine ⟨h1, by omega, ?_⟩
      have : j - i = (j - (i + 1)) + 1 := by omega
      rw [this, List.getElem?_cons_succ]
      exact h3

/-- A contract is proved by a walk over the body. -/
theorem enter {P : Program} {f : FuncId} {fn : Func} {c : Code} {n : Nat} {xs : List AV} {y : AV} (hf : P.funcs[f]? = some fn) (hb : fn.body = some c) (hn : fn.ntmps = n) (hle : Nat.ble xs.length n = true)
    (h : ∀ M (w0 : Bs) a, S M w0 a w0.toWorld n [] (start 0 xs) → c.wp P (bodyPost P fn (RetB M w0 y)) a w0.toWorld) : Ok P f xs y := by
  intro M w vs hM hL
  refine calls_of_wp hf hb (h M ⟨w, fun _ => False⟩ _ ?_)
  have hle' : xs.length ≤ n := Nat.le_of_ble_eq_true hle
  have hsz : vs.size = xs.length := by rw [← hL.length]; simp
  refine ⟨Own.start hM, rfl, by simp [hn]; omega, ?_⟩
  intro i c' v hl
  obtain ⟨rfl, _, hv⟩ := look_start xs 0 i c' v hl
  refine ⟨fun _ => ?_, fun hh => absurd (holds_nil _) hh⟩
  simp only [Nat.sub_zero] at hv
  have hlt : i < vs.size := by
    have := (List.getElem?_eq_some_iff.1 hv).1
    omega
  obtain ⟨u, hu, hr⟩ := hL.get hv
  simp only [Array.getD_eq_getD_getElem?]
  rw [Array.getElem?_append_left (by simpa using hlt)]
  have hu' : vs[i]? = some u := by simpa using hu
  rw [hu']
  exact Rep.go (fun b hb _ => ⟨⟨hb, fun it hi => by simp at hi⟩, rfl⟩) v u hr

/-- A contract with items is proved by a walk over the body. -/
theorem enterH {P : Program} {f : FuncId} {fn : Func} {c : Code} {n : Nat} {xs : List AV} {I : List It} {Q : AV → List It → Prop} (hf : P.funcs[f]? = some fn) (hb : fn.body = some c) (hn : fn.ntmps = n) (hle : Nat.ble xs.length n = true)
    (h : ∀ M (w0 : Bs) a, S M w0 a w0.toWorld n I (start 0 xs) → c.wp P (bodyPost P fn (RetH M w0 Q)) a w0.toWorld) : OkH P f xs I Q := by
  intro M w vs hO hL
  refine calls_of_wp hf hb (h M ⟨w, footL I⟩ _ ?_)
  have hle' : xs.length ≤ n := Nat.le_of_ble_eq_true hle
  have hsz : vs.size = xs.length := by rw [← hL.length]; simp
  refine ⟨hO, rfl, by simp [hn]; omega, ?_⟩
  intro i c' v hl
  obtain ⟨rfl, _, hv⟩ := look_start xs 0 i c' v hl
  refine ⟨fun _ => ?_, fun hh => absurd (holds_nil _) hh⟩
  simp only [Nat.sub_zero] at hv
  have hlt : i < vs.size := by
    have := (List.getElem?_eq_some_iff.1 hv).1
    omega
  obtain ⟨u, hu, hr⟩ := hL.get hv
  simp only [Array.getD_eq_getD_getElem?]
  rw [Array.getElem?_append_left (by simpa using hlt)]
  have hu' : vs[i]? = some u := by simpa using hu
  rw [hu']
  exact hr

section
variable {P : Program} {M : Nat → Prop} {w0 : Bs} {w : World} {a : Act} {n : Nat} {I : List It} {σ : St} {ops : Array Oper} {Q : Exit → Act → World → Prop}

theorem wreg {id : Nat} {l : List Oper} {y : Code} (h : ∀ K : Act → World → Prop, (∀ a w, y.wp P Q a w → K a w) → wpList P l.toArray (Exit.then K Q) l a w) :
    (Code.seq (.region id l.toArray false) y).wp P Q a w := wp_seq_k fun K hK => wp_region_lit (h K hK)
theorem wreg1 {id : Nat} {l : List Oper} (h : wpList P l.toArray Q l a w) : (Code.region id l.toArray false).wp P Q a w := wp_region_lit h
theorem lend {K : Act → World → Prop} (h : K a w) : wpList P ops (Exit.then K Q) [] a w := h
theorem wseq {x y : Code} (h : ∀ K : Act → World → Prop, (∀ a w, y.wp P Q a w → K a w) → x.wp P (Exit.then K Q) a w) : (Code.seq x y).wp P Q a w := wp_seq_k h
/-- Where ways meet again: what holds there. -/
theorem wseqJ {x y : Code} (J : Act → World → Prop) (hy : ∀ a w, J a w → y.wp P Q a w) (h : ∀ K : Act → World → Prop, (∀ a w, J a w → K a w) → x.wp P (Exit.then K Q) a w) : (Code.seq x y).wp P Q a w :=
  wp_seq_k fun K hK => h K fun a w hJ => hK a w (hy a w hJ)
theorem wcond {t : Operand} {x y : Code} {b : Bool} (hk : S M w0 a w n I σ Df) (ht : opvc σ [] t = some (.lit (.bool b))) (h1 : b = true → x.wp P Q a w) (h2 : b = false → y.wp P Q a w) :
    (Code.cond t x y).wp P Q a w := wp_cond_split (hk.kn.val (holds_nil a) ht) h1 h2
/-- A branch, beside what its ways come to. -/
theorem wcondF {α : Type} {A B : Option α} {r : α} {t : Operand} {x y : Code} {b : Bool} (hk : S M w0 a w n I σ Df) (h : (if b = true then A else B) = some r) (ht : opvc σ [] t = some (.lit (.bool b))) (h1 : A = some r → b = true → x.wp P Q a w) (h2 : B = some r → b = false → y.wp P Q a w) :
    (Code.cond t x y).wp P Q a w := wcond hk ht (fun e => h1 (by rwa [if_pos e] at h) e) (fun e => h2 (by rwa [if_neg (by simp [e])] at h) e)
theorem then_normal {K : Act → World → Prop} (h : K a w) : Exit.then K Q .normal a w := h
theorem then_ret {K : Act → World → Prop} (h : Q .ret a w) : Exit.then K Q .ret a w := h
theorem block_ret {id : Nat} (h : Q .ret a w) : Exit.inBlock id Q .ret a w := h
theorem block_normal {id : Nat} (h : Q .normal a w) : Exit.inBlock id Q .normal a w := h
theorem then_exit {K : Act → World → Prop} {id : Nat} (h : Q (.exit id) a w) : Exit.then K Q (.exit id) a w := h
theorem block_exit {id : Nat} (h : Q .normal a w) : Exit.inBlock id Q (.exit id) a w := by
  show (if id = id then Q .normal a w else _); rw [if_pos rfl]; exact h
theorem block_exit_ne {id id' : Nat} (hne : Nat.beq id' id = false) (h : Q (.exit id') a w) : Exit.inBlock id Q (.exit id') a w := by
  have : ¬ id' = id := by intro e; subst e; simp at hne
  show (if id' = id then Q .normal a w else Q (.exit id') a w); rw [if_neg this]; exact h

/-- A loop, its state a letter. -/
theorem wloop {T : Type} {c : Code} (J : T → Act → World → Prop) (m : T → Nat) (s0 : T) (h0 : J s0 a w)
    (h : ∀ s a w, J s a w → ∀ K : Act → World → Prop, (∀ s' a' w', m s' < m s → J s' a' w' → K a' w') → c.wp P (Exit.then K Q) a w) : (Code.loop c).wp P Q a w := by
  refine wp_loop_ghost (fun k a w => ∃ s, m s = k ∧ J s a w) (m s0) ⟨s0, rfl, h0⟩ ?_
  rintro k a w ⟨s, rfl, hI⟩
  exact h s a w hI _ fun s' a' w' hlt hI' => ⟨m s', hlt, s', rfl, hI'⟩

theorem okM_le (M : Nat → Prop) (I : List It) (w : World) : Goes (okM M I) (fun b => ¬ M b) w w := fun b h _ => ⟨h.1, rfl⟩
theorem fret1 {fn : Func} {t : Nat} {y : AV} (hk : S M w0 a w n I σ) (hr : fn.results = #[.tmp t]) (hl : look σ t = some ([], y)) : bodyPost P fn (RetB M w0 y) .ret a w :=
  bodyPost_ret (results_tmp hr _ _ _) hk.kn.defers ⟨_, rfl, hk.own.frm, Rep.go (okM_le M I w) y _ (hk.kn.get hl)⟩
theorem fret0 {fn : Func} (hk : S M w0 a w n I σ) (hr : fn.results = #[]) : bodyPost P fn (RetB M w0 (.tup [])) .ret a w :=
  bodyPost_ret (results_none hr _ _ _) hk.kn.defers ⟨_, rfl, hk.own.frm, by simp [Rep, RepL]⟩
theorem fret2 {fn : Func} {t t' : Nat} {y y' : AV} (hk : S M w0 a w n I σ) (hr : fn.results = #[.tmp t, .tmp t']) (hl : look σ t = some ([], y)) (hl' : look σ t' = some ([], y')) : bodyPost P fn (RetB M w0 (.tup [y, y'])) .ret a w :=
  bodyPost_ret (results_tmp2 hr _ _ _) hk.kn.defers ⟨_, rfl, hk.own.frm, by
    simp only [Rep]
    exact ⟨_, rfl, repL_cons (Rep.go (okM_le M I w) y _ (hk.kn.get hl)) (repL_cons (Rep.go (okM_le M I w) y' _ (hk.kn.get hl')) repL_nil)⟩⟩
theorem results_tmp3' {fn : Func} {t u x : Tmp} (h : fn.results = #[.tmp t, .tmp u, .tmp x]) (tmps : Array Value) (P : Program) (w : World) :
    (results fn tmps).run P w = .ok (.tuple #[tmps.getD t undef, tmps.getD u undef, tmps.getD x undef]) w := by simp [results, h]
theorem fret3 {fn : Func} {t t' t'' : Nat} {y y' y'' : AV} (hk : S M w0 a w n I σ) (hr : fn.results = #[.tmp t, .tmp t', .tmp t'']) (hl : look σ t = some ([], y)) (hl' : look σ t' = some ([], y')) (hl'' : look σ t'' = some ([], y'')) : bodyPost P fn (RetB M w0 (.tup [y, y', y''])) .ret a w :=
  bodyPost_ret (results_tmp3' hr _ _ _) hk.kn.defers ⟨_, rfl, hk.own.frm, by
    simp only [Rep]
    exact ⟨_, rfl, repL_cons (Rep.go (okM_le M I w) y _ (hk.kn.get hl)) (repL_cons (Rep.go (okM_le M I w) y' _ (hk.kn.get hl')) (repL_cons (Rep.go (okM_le M I w) y'' _ (hk.kn.get hl'')) repL_nil))⟩⟩
theorem fnorm {fn : Func} {R : Ending → World → Prop} (h : bodyPost P fn R .ret a w) : bodyPost P fn R .normal a w := h
end

/-! ### What stands ahead of a value -/
theorem chk {α : Type} {p : Prop} [Decidable p] {A : Option α} {r : α} (h : (if p then A else none) = some r) : p ∧ A = some r := by
  by_cases hp : p
  · rw [if_pos hp] at h; exact ⟨hp, h⟩
  · rw [if_neg hp] at h; cases h
theorem bnd {α β : Type} {x : Option β} {F : β → Option α} {r : α} (h : x.bind F = some r) : ∃ y, x = some y ∧ F y = some r := Option.bind_eq_some_iff.1 h
/-- A value that is wanted under a guard alone. -/
theorem bndG {α β : Type} {p : Prop} [Decidable p] {x : Option β} {d : β} {F : β → Option α} {r : α} (h : (if p then x else some d).bind F = some r) : ∃ y, (p → x = some y) ∧ F y = some r := by
  by_cases hp : p
  · rw [if_pos hp] at h; obtain ⟨y, h1, h2⟩ := bnd h; exact ⟨y, fun _ => h1, h2⟩
  · rw [if_neg hp] at h; exact ⟨d, fun h' => absurd h' hp, h⟩
end Go.Proofs.Ytaoffkhflmndhaa.FW

/- Maps of a call's own, elements of rows of its own, pointers held against nil. -/
import Derived.Test.YtaoffkhflmndhaaHv
import Derived.MapKept
namespace Go.Proofs.Ytaoffkhflmndhaa.FW
variable {Df : List Deferred}
open Go.RowKit Go.MapKept
set_option linter.unusedVariables false
set_option linter.unusedSimpArgs false
set_option linter.unusedSectionVars false
/-! ### Maps -/
def evS (s : List UInt8) : Value := .string (B s)
section
variable {P : Program} {M : Nat → Prop} {w0 : Bs} {w : World} {a : Act} {n : Nat} {I : List It} {σ : St} {o : Oper} {ops : Array Oper} {Q : Exit → Act → World → Prop} {rest : List Oper}
/-- An operation whose value nobody takes. -/
theorem lval {v : Value} {w' : World} {I' : List It} (hk : S M w0 a w n I σ Df) (hg : o.guard = none) (hd : o.dst = none)
    (hr : (execOp a.eval o).run P w = .ok (.value v) w') (hk' : S M w0 a w' n I' σ Df) (h : S M w0 a w' n I' σ Df → wpList P ops Q rest a w') : wpList P ops Q (o :: rest) a w := by
  unfold wpList
  rw [if_pos (by simp [Region.wanted, hg])]
  left
  unfold Oper.wp
  rw [hr, Oper.upon_value, hd]
  exact h hk'
end
def mget {κ ν : Type} [DecidableEq κ] (m : List (κ × ν)) (k : κ) : Option ν := (m.find? fun p => decide (p.1 = k)).map (·.2)
def mput {κ ν : Type} [DecidableEq κ] (m : List (κ × ν)) (k : κ) (v : ν) : List (κ × ν) :=
  if (m.any fun p => decide (p.1 = k)) = true then m.map fun p => if p.1 = k then (p.1, v) else p else m ++ [(k, v)]
/-- Keys that are told by values of a kind. -/
structure KeyOk {κ : Type} (D : TypeDesc) (ek : κ → Value) : Prop where
  inj : ∀ a b, ek a = ek b → a = b
  is : ∀ a, IsKey D (ek a)
theorem keyI64 : KeyOk (.int .i64) (Value.int .i64) := ⟨fun a b h => by injection h, fun a => rfl⟩
theorem keyU64 : KeyOk (.int .u64) (Value.int .u64) := ⟨fun a b h => by injection h, fun a => rfl⟩
/-- A map's entries. -/
structure MapP {κ ν : Type} (D : TypeDesc) (ek : κ → Value) (ev : ν → Value) (r : Nat) (m : List (κ × ν)) (w : World) (es : Array MapEntry) (clock : Nat) : Prop where
  at_ : w.heap[r]? = some (.map es clock)
  stamped : Stamped es clock
  ents : es.toList.map (fun e => (e.key, e.val)) = m.map fun p => (ek p.1, ev p.2)
  key : KeyOk D ek
def mapI {κ ν : Type} (D : TypeDesc) (ek : κ → Value) (ev : ν → Value) (r : Nat) (m : List (κ × ν)) : It where
  foot := fun k => k = r
  P := fun _ w => ∃ es clock, MapP D ek ev r m w es clock
  stable := by
    rintro ok ok' w w' _ _ _ hb ⟨es, clock, h⟩
    exact ⟨es, clock, ⟨(hb r rfl).trans h.at_, h.stamped, h.ents, h.key⟩⟩
section
variable {κ ν : Type} [DecidableEq κ] {D : TypeDesc} {ek : κ → Value} {ev : ν → Value} {r : Nat} {m : List (κ × ν)} {w : World} {es : Array MapEntry} {clock : Nat}
theorem MapP.keys (h : MapP D ek ev r m w es clock) : ∀ x ∈ es.toList, IsKey D x.key := by
  intro x hx
  have : (x.key, x.val) ∈ es.toList.map fun e => (e.key, e.val) := List.mem_map.2 ⟨x, hx, rfl⟩
  rw [h.ents] at this
  obtain ⟨p, _, hp⟩ := List.mem_map.1 this
  injection hp with hp _
  rw [← hp]; exact h.key.is _
theorem MapP.at' (h : MapP D ek ev r m w es clock) {j : Nat} {e : MapEntry} (he : es.toList[j]? = some e) : ∃ p, m[j]? = some p ∧ ek p.1 = e.key ∧ ev p.2 = e.val := by
  have h1 : (es.toList.map fun e => (e.key, e.val))[j]? = some (e.key, e.val) := by simp [he]
  rw [h.ents, List.getElem?_map] at h1
  obtain ⟨p, hp, hpe⟩ := Option.map_eq_some_iff.1 h1
  injection hpe with h2 h3
  exact ⟨p, hp, h2, h3⟩
theorem MapP.len (h : MapP D ek ev r m w es clock) : es.size = m.length := by
  have := congrArg List.length h.ents
  simpa using this
/-- A key is looked for. -/
theorem MapP.find (h : MapP D ek ev r m w es clock) (k : κ) :
    (Instr.findNow D (ek k) es.toList 0 = some none ∧ (∀ x ∈ es.toList, x.key ≠ ek k) ∧ (∀ p ∈ m, p.1 ≠ k)) ∨
    ∃ j e p, Instr.findNow D (ek k) es.toList 0 = some (some (j, e.val)) ∧ es.toList[j]? = some e ∧ e.key = ek k ∧ m[j]? = some p ∧ p.1 = k ∧ ev p.2 = e.val := by
  rcases findNow_spec (h.key.is k) es.toList 0 h.keys with ⟨h1, h2⟩ | ⟨j, e, h1, h2, h3⟩
  · refine .inl ⟨h1, h2, fun p hp he => ?_⟩
    have : (ek p.1, ev p.2) ∈ es.toList.map fun e => (e.key, e.val) := by rw [h.ents]; exact List.mem_map.2 ⟨p, hp, rfl⟩
    obtain ⟨x, hx, hxe⟩ := List.mem_map.1 this
    injection hxe with hx1 _
    exact h2 x hx (by rw [hx1, he])
  · obtain ⟨p, hp, hp1, hp2⟩ := h.at' h2
    exact .inr ⟨j, e, p, by simpa using h1, h2, h3, hp, h.key.inj _ _ (hp1.trans h3), hp2⟩
theorem MapP.nodup (h : MapP D ek ev r m w es clock) : (m.map (·.1)).Nodup := by
  have h1 := h.stamped.2.2
  have h2 : es.toList.map (·.key) = m.map fun p => ek p.1 := by
    have := congrArg (List.map Prod.fst) h.ents
    simpa [Function.comp_def] using this
  rw [h2] at h1
  have h3 : (m.map fun p => ek p.1) = (m.map (·.1)).map ek := by simp [Function.comp_def]
  rw [h3] at h1
  exact (List.pairwise_map.1 h1).imp fun hne he => hne (by rw [he])
theorem mget_none {k : κ} (h : ∀ p ∈ m, p.1 ≠ k) : mget m k = none := by
  unfold mget
  rw [List.find?_eq_none.2 (by simpa using h)]; rfl
theorem mget_at (hn : (m.map (·.1)).Nodup) {j : Nat} {p : κ × ν} (hp : m[j]? = some p) : mget m p.1 = some p.2 := by
  induction m generalizing j with
  | nil => simp at hp
  | cons q m ih =>
    unfold mget
    rw [List.map_cons, List.nodup_cons] at hn
    cases j with
    | zero =>
      simp only [List.getElem?_cons_zero, Option.some.injEq] at hp
      subst hp
      simp
    | succ j =>
      simp only [List.getElem?_cons_succ] at hp
      have hne : ¬ q.1 = p.1 := fun e => hn.1 (by rw [e]; exact List.mem_map.2 ⟨p, List.mem_of_getElem? hp, rfl⟩)
      rw [List.find?_cons, decide_eq_false hne]
      exact ih hn.2 hp
/-- What is found where a key is looked up. -/
theorem MapP.get (h : MapP D ek ev r m w es clock) (k : κ) : (∃ j e v, Instr.findNow D (ek k) es.toList 0 = some (some (j, e)) ∧ mget m k = some v ∧ ev v = e) ∨ (Instr.findNow D (ek k) es.toList 0 = some none ∧ mget m k = none) := by
  rcases h.find k with ⟨h1, _, h3⟩ | ⟨j, e, p, h1, _, _, hp, rfl, hv⟩
  · exact .inr ⟨h1, mget_none h3⟩
  · exact .inl ⟨j, e.val, p.2, h1, mget_at h.nodup hp, hv⟩
end
section
variable {P : Program} {M : Nat → Prop} {w0 : Bs} {w : World} {a : Act} {n : Nat} {I I' : List It} {σ : St} {c : Ch} {dst : Option Tmp} {ty : TypeId} {pos : String} {aft : Array Edge} {g : Option (Nat × Bool)} {x y z : Operand} {u : AV} {ops : Array Oper} {Q : Exit → Act → World → Prop} {rest : List Oper} {d j : Nat}
  {κ ν : Type} [DecidableEq κ] {D : TypeDesc} {ek : κ → Value} {ev : ν → Value} {r : Nat} {m : List (κ × ν)} {k : κ} {v : ν} {t kt et : TypeId}
theorem run_lookup {zv : Value} (b : Bool) (hk : S M w0 a w n I σ Df) (hj : I[j]? = some (mapI D ek ev r m)) (ht : P.underlying t = some (.map kt et)) (hd : P.underlying kt = some D) (hz : (P.info? et).bind (·.zero) = some zv) :
    (Instr.lookup t (.map (some r)) (ek k) b).run P w = .ok (if b then .tuple #[((mget m k).map ev).getD zv, .bool (mget m k).isSome] else ((mget m k).map ev).getD zv) w := by
  obtain ⟨es, clock, h⟩ := hk.own.get hj
  obtain ⟨inf, hi, hz'⟩ := Option.bind_eq_some_iff.1 hz
  rcases h.get k with ⟨j', e, v, h1, h2, h3⟩ | ⟨h1, h2⟩
  · simp [Instr.lookup, run_underlying ht, MapKept.run_getObj_map h.at_, run_checkKey hd (h.key.is k), run_findKey hd h1, h2, h3]
  · simp [Instr.lookup, run_underlying ht, MapKept.run_getObj_map h.at_, run_checkKey hd (h.key.is k), run_findKey hd h1, h2, zeroValue, typeInfo, hi, hz']
/-- v, ok := m[k]. -/
theorem f_lookup2 {z : ν} (hk : S M w0 a w n I σ Df) (hc : holds a c) (hj : I[j]? = some (mapI D ek ev r m)) (hx : opvc σ c x = some (.lit (.map (some r)))) (hy : opvc σ c y = some (.lit (ek k))) (ht : P.underlying t = some (.map kt et)) (hd : P.underlying kt = some D) (hz : (P.info? et).bind (·.zero) = some (ev z)) :
    Fun P (okM M I) ⟨dst, .lookup t x y true, ty, pos, aft, g⟩ a w (.tup [.lit (ev ((mget m k).getD z)), .lit (.bool (mget m k).isSome)]) := by
  refine .inl ⟨.tuple #[((mget m k).map ev).getD (ev z), .bool (mget m k).isSome], w, ?_, New.refl w, ?_⟩
  · simp only [execOp, hk.kn.val hc hx, hk.kn.val hc hy, Sem.run_bind, run_lookup true hk hj ht hd hz, Result.andThen_ok]
    rfl
  · cases hg : mget m k <;> simp [Rep, RepL]
/-- m[k]. -/
theorem f_lookup1 {z : ν} (hk : S M w0 a w n I σ Df) (hc : holds a c) (hj : I[j]? = some (mapI D ek ev r m)) (hx : opvc σ c x = some (.lit (.map (some r)))) (hy : opvc σ c y = some (.lit (ek k))) (ht : P.underlying t = some (.map kt et)) (hd : P.underlying kt = some D) (hz : (P.info? et).bind (·.zero) = some (ev z)) :
    Fun P (okM M I) ⟨dst, .lookup t x y false, ty, pos, aft, g⟩ a w (.lit (ev ((mget m k).getD z))) := by
  refine .inl ⟨((mget m k).map ev).getD (ev z), w, ?_, New.refl w, ?_⟩
  · simp only [execOp, hk.kn.val hc hx, hk.kn.val hc hy, Sem.run_bind, run_lookup false hk hj ht hd hz, Result.andThen_ok]
    rfl
  · cases hg : mget m k <;> simp [Rep]
/-- len(m). -/
theorem f_lenMap (hk : S M w0 a w n I σ Df) (hc : holds a c) (hj : I[j]? = some (mapI D ek ev r m)) (hx : opvc σ c x = some (.lit (.map (some r)))) (ht : P.underlying t = some (.map kt et)) :
    Fun P (okM M I) ⟨dst, .call { callee := .builtin .len, args := #[x], argTypes := #[t] }, ty, pos, aft, g⟩ a w (.lit (.int .i64 (m.length : Int))) := by
  obtain ⟨es, clock, h⟩ := hk.own.get hj
  refine .inl ⟨_, w, ?_, New.refl w, rep_lit rfl⟩
  simp [execOp, resolve, invoke, builtin, hk.kn.val hc hx, Builtin.len_, run_underlying ht, MapKept.run_getObj_map h.at_, goInt, h.len]
theorem Frm.putObj (w : World) (r : Nat) (o : Obj) : Frm (fun k => k = r) w { w with heap := w.heap.setIfInBounds r o } :=
  ⟨rfl, rfl, rfl, by simp, fun k _ hn => by simp [Array.getElem?_setIfInBounds, Ne.symm hn]⟩
/-- A map that is laid. -/
theorem l_makeMap (hk : S M w0 a w n I σ Df) (hn : Nat.blt d n = true) (hf : chFree σ d = true) (hkey : KeyOk D ek)
    (h : ∀ r a' w', S M w0 a' w' n (mapI D ek ev r ([] : List (κ × ν)) :: I) ((d, [], .lit (.map (some r))) :: σ) Df → wpList P ops Q rest a' w') :
    wpList P ops Q (⟨some d, .makeMap t none, ty, pos, aft, none⟩ :: rest) a w := by
  have hr : (execOp a.eval ⟨some d, .makeMap t none, ty, pos, aft, none⟩).run P w = .ok (.value (.map (some w.heap.size))) (w.alloc (.map #[] 0)) := by
    simp [execOp, Instr.makeMap]
  refine leff hk rfl rfl hn hf hr ?_ (rep_lit rfl) (fun a' hk' => h _ _ _ hk')
  refine hk.push (New.alloc w _) ⟨#[], 0, heap_alloc_new w _, stamped_empty 0, rfl, hkey⟩ fun k hk' => ?_
  have hk' : k = w.heap.size := hk'
  subst hk'
  simp
theorem MapP.put {w : World} {es : Array MapEntry} {clock : Nat} (h : MapP D ek ev r m w es clock) (k : κ) (v : ν) (ht : P.underlying t = some (.map kt et)) (hd : P.underlying kt = some D) :
    ∃ w' es' clock', (Instr.mapUpdate t (.map (some r)) (ek k) (ev v)).run P w = .ok () w' ∧ Frm (fun k => k = r) w w' ∧ MapP D ek ev r (mput m k v) w' es' clock' := by
  rcases h.find k with ⟨h1, h2, h3⟩ | ⟨j, e, p, h1, h2, h3, hp, hpk, hv⟩
  · refine ⟨_, es.push ⟨ek k, ev v, clock⟩, clock + 1, ?_, Frm.putObj w r (.map (es.push ⟨ek k, ev v, clock⟩) (clock + 1)), (heap_set h.at_).1, stamped_push h.stamped h2, ?_, h.key⟩
    · simp [Instr.mapUpdate, run_underlying ht, MapKept.run_getObj_map h.at_, run_checkKey hd (h.key.is k), run_findKey hd h1, run_setObj_map _ h.at_]
    · have ha : (m.any fun p => decide (p.1 = k)) = false := by
        rw [List.any_eq_false]; intro p hp; simpa using h3 p hp
      unfold mput
      rw [ha, if_neg (by simp)]
      simp [h.ents]
  · have hj : es[j]? = some e := by simpa using h2
    have hkey : ∀ e', es[j]? = some e' → ({ e' with key := ek k, val := ev v } : MapEntry).key = e'.key := fun e' he' => by rw [hj] at he'; cases he'; exact h3.symm
    refine ⟨_, es.modify j fun e => { e with key := ek k, val := ev v }, clock, ?_, Frm.putObj w r (.map (es.modify j fun e => { e with key := ek k, val := ev v }) clock), (heap_set h.at_).1, stamped_modify h.stamped _ _ (fun _ _ => rfl) (fun e' _ he' => hkey e' he'), ?_, h.key⟩
    · simp [Instr.mapUpdate, run_underlying ht, MapKept.run_getObj_map h.at_, run_checkKey hd (h.key.is k), run_findKey hd h1, hj, h3, run_keyThatStays (h.key.is k), run_setObj_map _ h.at_]
    · have ha : (m.any fun p => decide (p.1 = k)) = true := by
        rw [List.any_eq_true]; exact ⟨p, List.mem_of_getElem? hp, by simpa using hpk⟩
      unfold mput
      rw [if_pos ha]
      apply List.ext_getElem?
      intro i
      have hnd := h.nodup
      have hen : ∀ i : Nat, (es.toList.map fun e => (e.key, e.val))[i]? = (m.map fun p => (ek p.1, ev p.2))[i]? := fun i => by rw [h.ents]
      have heni := hen i
      rw [List.getElem?_map, List.getElem?_map] at heni
      rw [List.getElem?_map, List.getElem?_map, List.getElem?_map, Array.getElem?_toList, Array.getElem?_modify]
      rw [Array.getElem?_toList] at heni
      by_cases hij : j = i
      · subst hij
        rw [if_pos rfl, hj, hp]
        simp [hpk]
      · rw [if_neg hij, heni]
        cases hm : m[i]? with
        | none => rfl
        | some q =>
          have hq : ¬ q.1 = k := by
            intro he
            have h1 : (m.map (·.1))[i]? = some k := by simp [hm, he]
            have h2 : (m.map (·.1))[j]? = some k := by simp [hp, hpk]
            exact hij ((List.getElem?_inj (by have := (List.getElem?_eq_some_iff.1 h2).1; simpa using this) hnd).1 (h2.trans h1.symm))
          simp [hq]
/-- m[k] = v. -/
theorem l_mapUpdate {I' : List It} (hk : S M w0 a w n I σ Df) (hj : I[j]? = some (mapI D ek ev r m)) (hx : opvc σ [] x = some (.lit (.map (some r)))) (hy : opvc σ [] y = some (.lit (ek k))) (hz : opvc σ [] z = some (.lit (ev v))) (ht : P.underlying t = some (.map kt et)) (hd : P.underlying kt = some D)
    (hI : I.set j (mapI D ek ev r (mput m k v)) = I') (h : ∀ w', S M w0 a w' n I' σ Df → wpList P ops Q rest a w') :
    wpList P ops Q (⟨none, .mapUpdate t x y z, ty, pos, aft, none⟩ :: rest) a w := by
  obtain ⟨es, clock, hm⟩ := hk.own.get hj
  obtain ⟨w', es', clock', hr, hw, hm'⟩ := hm.put k v ht hd
  subst hI
  have hr' : (execOp a.eval ⟨none, .mapUpdate t x y z, ty, pos, aft, none⟩).run P w = .ok .skip w' := by
    simp only [execOp, hk.kn.val (holds_nil a) hx, hk.kn.val (holds_nil a) hy, hk.kn.val (holds_nil a) hz, Sem.run_bind, hr, Result.andThen_ok]
    rfl
  refine lskip hk rfl rfl hr' ?_ (fun hk' => h _ hk')
  refine hk.upd hj hw ⟨es', clock', hm'⟩ fun k hk' => ⟨.inl hk', ?_⟩
  have : k < w.heap.size := (hk.own.lt hj (k := k) hk').2
  exact Nat.lt_of_lt_of_le this hw.size
/-- clear(m). -/
theorem l_clearMap {I' : List It} (hk : S M w0 a w n I σ Df) (hj : I[j]? = some (mapI D ek ev r m)) (hx : opvc σ [] x = some (.lit (.map (some r)))) (ht : P.underlying t = some (.map kt et))
    (hI : I.set j (mapI D ek ev r ([] : List (κ × ν))) = I') (h : ∀ w', S M w0 a w' n I' σ Df → wpList P ops Q rest a w') :
    wpList P ops Q (⟨none, .call { callee := .builtin .clear, args := #[x], argTypes := #[t] }, ty, pos, aft, none⟩ :: rest) a w := by
  obtain ⟨es, clock, hm⟩ := hk.own.get hj
  subst hI
  have hr' : (execOp a.eval ⟨none, .call { callee := .builtin .clear, args := #[x], argTypes := #[t] }, ty, pos, aft, none⟩).run P w = .ok (.value (.tuple #[])) { w with heap := w.heap.setIfInBounds r (.map #[] clock) } := by
    simp [execOp, resolve, invoke, builtin, hk.kn.val (holds_nil a) hx, Builtin.clear_, run_underlying ht, MapKept.run_getObj_map hm.at_, run_setObj_map _ hm.at_]
  refine lval hk rfl rfl hr' ?_ (fun hk' => h _ hk')
  refine hk.upd hj (Frm.putObj w r _) ⟨#[], clock, (heap_set hm.at_).1, stamped_empty _, rfl, hm.key⟩ fun k hk' => ⟨.inl hk', ?_⟩
  have : k < w.heap.size := (hk.own.lt hj (k := k) hk').2
  simpa using this
end
end Go.Proofs.Ytaoffkhflmndhaa.FW

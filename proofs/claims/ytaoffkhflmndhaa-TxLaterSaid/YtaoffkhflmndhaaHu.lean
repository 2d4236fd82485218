/- Function values that bear what they captured, and are read alone; maps whose values are structs; a map's keys. -/
import Derived.Test.YtaoffkhflmndhaaHc
import Derived.Test.YtaoffkhflmndhaaHg
import Derived.Test.YtaoffkhflmndhaaHmf
import Derived.Test.YtaoffkhflmndhaaHnl
import Derived.Test.YtaoffkhflmndhaaAvMorC
namespace Go.Proofs.Ytaoffkhflmndhaa.FW
variable {Df : List Deferred}
open Go.RowKit Go.MapKept
set_option linter.unusedVariables false
set_option linter.unusedSectionVars false
def sortK {ν : Type} (m : List (Int × ν)) : List Int := (m.map (·.1)).mergeSort fun x y => decide (x ≤ y)
/-- So few keys that they are sorted by insertion. -/
def keysU {ν : Type} (m : List (Int × ν)) : Bool := (m.all fun p => decide (0 ≤ p.1) && decide (p.1 ≤ 18446744073709551615)) && decide (m.length ≤ 12)
theorem aggLits {ok : Nat → Prop} {w : World} {us : List Value} {v : Value} (h : Rep ok w (.agg (us.map .lit)) v) : v = .agg us.toArray := by
  simp only [Rep] at h
  obtain ⟨vs, rfl, hL⟩ := h
  exact congrArg _ (Array.ext' (repL_lits_eq hL))
section
variable {P : Program} {M : Nat → Prop} {w0 : Bs} {w : World} {a : Act} {n : Nat} {I I' : List It} {σ : St} {c : Ch} {dst : Option Tmp} {ty : TypeId} {pos : String} {aft : Array Edge} {g : Option (Nat × Bool)} {x y z : Operand} {u : AV} {ops : Array Oper} {Q : Exit → Act → World → Prop} {rest : List Oper} {d j : Nat} {t : TypeId}
/-- A call of a function value that bears what it captured. -/
theorem f_callClo {f : Operand} {F : FuncId} {ps : List Operand} {tys : Array TypeId} {fn : Func} {xs cs : List AV} {y : AV} (hk : S M w0 a w n I σ Df) (hc : holds a c) (hv : opvc σ c f = some y) (hy : y = .clo F cs) (hx : argsA σ c ps = some xs)
    (hf : P.funcs[F]? = some fn) (hb : fn.body.isSome = true) (hn : (fn.name == "runtime.NumGoroutine") = false) (hok : Ok P F (xs ++ cs) u) :
    Fun P (okM M I) ⟨dst, .call { callee := .value f, args := ps.toArray, argTypes := tys }, ty, pos, aft, g⟩ a w u := by
  subst hy
  have h := hk.kn.rep hc hv
  simp only [Rep] at h
  obtain ⟨vs, hfv, hL⟩ := h
  exact .inr ⟨F, _, xs ++ cs, run_callC hfv rfl hf hb hn, by simpa using (rep_args hk.kn hc hx).append hL, hok⟩
/-- A function value over a variable that is read alone from there on. -/
theorem l_makeClo {F b : Nat} {cs : List AV} {y : AV} (hk : S M w0 a w n I σ Df) (hn : Nat.blt d n = true) (hf : chFree σ d = true) (hj : I[j]? = some (blk b t cs)) (hx : opvc σ [] x = some (.lit (.pointer (some ⟨b, 0, none⟩)))) (hI : I.eraseIdx j = I') (hy : y = .clo F [.ref cs])
    (h : ∀ a', S M w0 a' w n I' ((d, [], y) :: σ) Df → wpList P ops Q rest a' w) :
    wpList P ops Q (⟨some d, .makeFunc (.func F) #[] #[x], ty, pos, aft, none⟩ :: rest) a w := by
  subst hI hy
  obtain ⟨arr, hh, hL⟩ := hk.own.get hj
  refine leff (v := .func (.func F) #[] #[.pointer (some ⟨b, 0, none⟩)]) (w' := w) hk rfl rfl hn hf (by simp [execOp, Instr.makeFunc, hk.kn.val (holds_nil a) hx]) (hk.drop j) ?_ h
  have hb : okM M (I.eraseIdx j) b := by
    refine ⟨?_, ?_⟩
    · intro hM
      exact (hk.own.lt hj (k := b) rfl).1.elim (fun h2 => by have := hk.own.bd b hM; omega) (hk.own.apart b hM)
    · intro it hit hfo
      obtain ⟨i, hi⟩ := List.mem_iff_getElem?.1 hit
      rw [List.getElem?_eraseIdx] at hi
      split at hi
      · exact hk.own.dis i j it _ (by omega) hi hj b hfo rfl
      · exact hk.own.dis (i + 1) j it _ (by omega) hi hj b hfo rfl
  simp only [Rep]
  refine ⟨_, rfl, repL_cons ?_ repL_nil⟩
  simp only [Rep]
  exact ⟨b, 0, arr, t, (0, 0), rfl, hb, hh, by simpa using (RepL.go (Goes.drop w I j) _ _ hL).toP []⟩
theorem equal_fn {as rs : Array TypeId} {vr : Bool} {b : Bool} {v : Value} (hu : P.underlying t = some (.func as rs vr)) (h : (v = .nilFunc ∧ b = true) ∨ ∃ f r cp, v = .func f r cp ∧ b = false) (w : World) : (Op.equal t v .nilFunc).run P w = .ok b w := by
  unfold Op.equal
  rw [show Op.maxDepth = 9999 + 1 from rfl, Op.equalIn]
  simp only [Sem.run_bind, run_underlying hu, Result.andThen_ok]
  rcases h with ⟨rfl, rfl⟩ | ⟨f, r, cp, rfl, rfl⟩ <;> rfl
theorem fn_val {ok : Nat → Prop} {b : Bool} {v : Value} (h : Rep ok w u v) (hu : (u = .lit .nilFunc ∧ b = true) ∨ ∃ F cs, u = .clo F cs ∧ b = false) : (v = .nilFunc ∧ b = true) ∨ ∃ f r cp, v = .func f r cp ∧ b = false := by
  rcases hu with ⟨rfl, hb⟩ | ⟨F, cs, rfl, hb⟩
  · exact .inl ⟨by simpa [Rep] using h, hb⟩
  · simp only [Rep] at h
    obtain ⟨vs, rfl, _⟩ := h
    exact .inr ⟨_, _, _, rfl, hb⟩
theorem p_fnEq {ok : Nat → Prop} {wk : World} {as rs : Array TypeId} {vr : Bool} {b : Bool} {t' : TypeId} (hu : P.underlying t = some (.func as rs vr)) (hk : Knows ok a wk n σ Df) (hc : holds a c) (hx : opvc σ c x = some u) (hy : opvc σ c y = some (.lit .nilFunc)) (hb : (u = .lit .nilFunc ∧ b = true) ∨ ∃ F cs, u = .clo F cs ∧ b = false) :
    PureOp P a ⟨dst, .binOp .eql t x y t', ty, pos, aft, g⟩ (.bool b) := by
  intro w
  have h := fn_val (hk.rep hc hx) hb
  have h1 := equal_fn hu h w
  have h2 : (eqGuard .eql t x y (a.eval x) .nilFunc).run P w = .ok () w := by
    rcases h with ⟨hv, _⟩ | ⟨f, r, cp, hv, _⟩ <;> rw [hv] <;> simp [eqGuard]
  have h3 : (binOp .eql t (a.eval x) .nilFunc).run P w = .ok (.bool b) w := by
    rcases h with ⟨hv, _⟩ | ⟨f, r, cp, hv, _⟩ <;> rw [hv] at h1 ⊢ <;> simp only [binOp, Sem.run_bind, h1, Result.andThen_ok, Sem.run_pure]
  simp only [execOp, hk.val hc hy, Sem.run_bind, h2, Result.andThen_ok, h3, Sem.run_pure]
section
variable {κ ν : Type} [DecidableEq κ] {D : TypeDesc} {ek : κ → Value} {ev : ν → Value} {r : Nat} {m : List (κ × ν)} {k : κ} {v : ν} {kt et : TypeId} {av : ν → AV}
/-- v, ok := m[k]. -/
theorem f_lookup2A {z : ν} (hav : ∀ ok w v, Rep ok w (av v) (ev v)) (hk : S M w0 a w n I σ Df) (hc : holds a c) (hj : I[j]? = some (mapI D ek ev r m)) (hx : opvc σ c x = some (.lit (.map (some r)))) (hy : opvc σ c y = some (.lit (ek k))) (ht : P.underlying t = some (.map kt et)) (hd : P.underlying kt = some D) (hz : (P.info? et).bind (·.zero) = some (ev z)) :
    Fun P (okM M I) ⟨dst, .lookup t x y true, ty, pos, aft, g⟩ a w (.tup [av ((mget m k).getD z), .lit (.bool (mget m k).isSome)]) := by
  refine .inl ⟨.tuple #[((mget m k).map ev).getD (ev z), .bool (mget m k).isSome], w, ?_, New.refl w, ?_⟩
  · simp only [execOp, hk.kn.val hc hx, hk.kn.val hc hy, Sem.run_bind, run_lookup true hk hj ht hd hz, Result.andThen_ok]
    rfl
  · have : ((mget m k).map ev).getD (ev z) = ev ((mget m k).getD z) := by cases mget m k <;> rfl
    rw [this]
    simp only [Rep]
    exact ⟨_, rfl, repL_cons (hav _ _ _) (repL_cons (rep_lit rfl) repL_nil)⟩
/-- m[k]. -/
theorem f_lookup1A {z : ν} (hav : ∀ ok w v, Rep ok w (av v) (ev v)) (hk : S M w0 a w n I σ Df) (hc : holds a c) (hj : I[j]? = some (mapI D ek ev r m)) (hx : opvc σ c x = some (.lit (.map (some r)))) (hy : opvc σ c y = some (.lit (ek k))) (ht : P.underlying t = some (.map kt et)) (hd : P.underlying kt = some D) (hz : (P.info? et).bind (·.zero) = some (ev z)) :
    Fun P (okM M I) ⟨dst, .lookup t x y false, ty, pos, aft, g⟩ a w (av ((mget m k).getD z)) := by
  refine .inl ⟨((mget m k).map ev).getD (ev z), w, ?_, New.refl w, ?_⟩
  · simp only [execOp, hk.kn.val hc hx, hk.kn.val hc hy, Sem.run_bind, run_lookup false hk hj ht hd hz, Result.andThen_ok]
    rfl
  · have : ((mget m k).map ev).getD (ev z) = ev ((mget m k).getD z) := by cases mget m k <;> rfl
    rw [this]; exact hav _ _ _
/-- m[k] = v. -/
theorem l_mapUpdateA (hk : S M w0 a w n I σ Df) (hj : I[j]? = some (mapI D ek ev r m)) (hx : opvc σ [] x = some (.lit (.map (some r)))) (hy : opvc σ [] y = some (.lit (ek k))) (hz : opvc σ [] z = some u) (hu : ∀ {ok : Nat → Prop} {w : World} {v' : Value}, Rep ok w u v' → v' = ev v) (ht : P.underlying t = some (.map kt et)) (hd : P.underlying kt = some D)
    (hI : I.set j (mapI D ek ev r (mput m k v)) = I') (h : ∀ w', S M w0 a w' n I' σ Df → wpList P ops Q rest a w') :
    wpList P ops Q (⟨none, .mapUpdate t x y z, ty, pos, aft, none⟩ :: rest) a w := by
  obtain ⟨es, clock, hm⟩ := hk.own.get hj
  obtain ⟨w', es', clock', hr, hw, hm'⟩ := hm.put k v ht hd
  subst hI
  have hzv : a.eval z = ev v := hu (hk.kn.rep (holds_nil a) hz)
  have hr' : (execOp a.eval ⟨none, .mapUpdate t x y z, ty, pos, aft, none⟩).run P w = .ok .skip w' := by
    simp only [execOp, hk.kn.val (holds_nil a) hx, hk.kn.val (holds_nil a) hy, hzv, Sem.run_bind, hr, Result.andThen_ok]
    rfl
  refine lskip hk rfl rfl hr' ?_ (fun hk' => h _ hk')
  refine hk.upd hj hw ⟨es', clock', hm'⟩ fun k hk' => ⟨.inl hk', ?_⟩
  have : k < w.heap.size := (hk.own.lt hj (k := k) hk').2
  exact Nat.lt_of_lt_of_le this hw.size
end
end
theorem Ok.nil0 {P : Program} {f : FuncId} {xs : List AV} {y : AV} (h : Ok P f (.row [] :: xs) y) : Ok P f (.lit (.slice none 0 0) :: xs) y := fun M w vs hM hr => h M w vs hM (by
  obtain ⟨v, r, e, h1, h2⟩ := hr
  refine ⟨v, r, e, ?_, h2⟩
  have h1' : v = .slice none 0 0 := by simpa [Rep] using h1
  rw [h1']; exact rep_nil)
end Go.Proofs.Ytaoffkhflmndhaa.FW

/- maps.Clone, slices.Clone of rows of one's own: operations. -/
import Derived.Test.YtimaibcaehagjaaHm
import Derived.Test.YtimaibcaehagjaaHc
import Derived.Laws.Externs
namespace Go.Proofs.Ytimaibcaehagjaa.FW
variable {Df : List Deferred}
open Go.RowKit Go.MapKept
set_option linter.unusedVariables false
set_option linter.unusedSimpArgs false
set_option linter.unusedSectionVars false
section
variable {P : Program} {M : Nat → Prop} {w0 : Bs} {w : World} {a : Act} {n : Nat} {I I' : List It} {σ : St} {c : Ch} {dst : Option Tmp} {ty : TypeId} {pos : String} {aft : Array Edge} {g : Option (Nat × Bool)} {x y z : Operand} {u : AV} {ops : Array Oper} {Q : Exit → Act → World → Prop} {rest : List Oper} {d j : Nat}
  {κ ν : Type} [DecidableEq κ] {D : TypeDesc} {ek : κ → Value} {ev : ν → Value} {r : Nat} {m : List (κ × ν)} {k : κ} {v : ν} {t kt et : TypeId}
theorem run_eqMap (w : World) (t kt et : TypeId) (p : Option Nat) (h : P.underlying t = some (.map kt et)) : (binOp .eql t (.map p) (.map none)).run P w = .ok (.bool p.isNone) w := by
  have e : ∀ d, (Op.equalIn (d + 1) t (.map p) (.map none)).run P w = .ok p.isNone w := fun d => by cases p <;> simp [Op.equalIn, run_underlying h]
  simp only [binOp]
  simp [show Op.equal t (.map p) (.map none) = Op.equalIn (9999 + 1) t (.map p) (.map none) from rfl, e 9999]
theorem eqGuard_map (op : BinOp) (t : TypeId) (x y : Operand) (A B : Option Nat) (w : World) : (eqGuard op t x y (.map A) (.map B)).run P w = .ok () w := by
  unfold eqGuard; cases op <;> simp
/-- Is a map nil? -/
theorem f_eqMapNil {t' : TypeId} {p : Option Nat} (hk : S M w0 a w n I σ Df) (hc : holds a c) (hx : opvc σ c x = some (.lit (.map p))) (hy : opvc σ c y = some (.lit (.map none))) (hu : P.underlying t = some (.map kt et)) :
    Fun P (okM M I) ⟨dst, .binOp .eql t x y t', ty, pos, aft, g⟩ a w (.lit (.bool p.isNone)) := by
  refine .inl ⟨.bool p.isNone, w, ?_, New.refl w, rep_lit rfl⟩
  simp only [execOp, hk.kn.val hc hx, hk.kn.val hc hy, Sem.run_bind, eqGuard_map, Result.andThen_ok, run_eqMap w t kt et p hu, Sem.run_pure]
theorem f_ifaceMap {p : Option Nat} (hk : S M w0 a w n I σ Df) (hc : holds a c) (hx : opvc σ c x = some (.lit (.map p))) (hu : P.underlying t = some (.map kt et)) :
    Fun P (okM M I) ⟨dst, .makeInterface t x, ty, pos, aft, g⟩ a w (.lit (.iface t (.map p))) := by
  refine .inl ⟨.iface t (.map p), w, ?_, New.refl w, rep_lit rfl⟩
  simp [execOp, hk.kn.val hc hx, run_underlying hu, Instr.makeInterface]
theorem f_tassertMap {xt : TypeId} {p : Option Nat} (hk : S M w0 a w n I σ Df) (hc : holds a c) (hu : P.underlying t = some (.map kt et)) (hx : opvc σ c x = some (.lit (.iface t (.map p)))) :
    Fun P (okM M I) ⟨dst, .typeAssert x xt t false, ty, pos, aft, g⟩ a w (.lit (.map p)) := by
  refine .inl ⟨.map p, w, ?_, New.refl w, rep_lit rfl⟩
  simp [execOp, Instr.typeAssert, run_underlying hu, hk.kn.val hc hx]
theorem run_mapsClone {es : Array MapEntry} {clock : Nat} (t : TypeId) (hb : w.heap[r]? = some (.map es clock)) :
    (Extern.MapsClone.clone #[.iface t (.map (some r))]).run P w = .ok (.iface t (.map (some w.heap.size))) (w.alloc (.map es clock)) := by
  have e : Extern.MapsClone.clone #[.iface t (.map (some r))] = (getObj r >>= fun o => match o with
      | .map entries clock => (newObj (.map entries clock) >>= fun n => pure (.iface t (.map (some n))))
      | _ => stuck "maps.clone: a map expected") := rfl
  rw [e]
  simp [MapKept.run_getObj_map hb, Result.andThen, go_sem]
/-- A map's copy is a map of one's own. -/
theorem l_mapsClone {f : Operand} {fid : FuncId} {tys : Array TypeId} {fn : Func} (hk : S M w0 a w n I σ Df) (hj : I[j]? = some (mapI D ek ev r m)) (hn : Nat.blt d n = true) (hf : chFree σ d = true)
    (hv : opvc σ [] f = some (.lit (.func (.func fid) #[] #[]))) (hx : opvc σ [] x = some (.lit (.iface t (.map (some r))))) (hfn : P.funcs[fid]? = some fn) (hname : (fn.name == "runtime.NumGoroutine") = false) (hb : fn.body.isNone = true) (hnx : Extern.findNext fn = none) (he : Extern.find fn = some Extern.MapsClone.clone)
    (h : ∀ r' a' w', S M w0 a' w' n (mapI D ek ev r' m :: I) ((d, [], .lit (.iface t (.map (some r')))) :: σ) Df → wpList P ops Q rest a' w') :
    wpList P ops Q (⟨some d, .call { callee := .value f, args := #[x], argTypes := tys }, ty, pos, aft, none⟩ :: rest) a w := by
  obtain ⟨es, clock, hm⟩ := hk.own.get hj
  have hr : (execOp a.eval ⟨some d, .call { callee := .value f, args := #[x], argTypes := tys }, ty, pos, aft, none⟩).run P w = .ok (.value (.iface t (.map (some w.heap.size)))) (w.alloc (.map es clock)) := by
    simp only [execOp, resolve, hk.kn.val (holds_nil a) hv, Deferred.ofValue, invoke]
    have h1 := run_callFunc_extern hfn hname hb hnx he #[.iface t (.map (some r))] w
    rw [run_mapsClone t hm.at_] at h1
    simpa [hk.kn.val (holds_nil a) hx] using h1
  refine leff hk rfl rfl hn hf hr ?_ (rep_lit rfl) (fun a' hk' => h _ _ _ hk')
  refine hk.push (New.alloc w _) ⟨es, clock, heap_alloc_new w _, hm.stamped, hm.ents, hm.key⟩ fun k hk' => ?_
  have hk' : k = w.heap.size := hk'
  subst hk'
  simp
end
end Go.Proofs.Ytimaibcaehagjaa.FW

/- A function whose deferred closure recovers; faults in interfaces. -/
import Derived.Test.YtbjbgodcenopnaaHrc
namespace Go.Proofs.Ytbjbgodcenopnaa.FW
variable {Df : List Deferred}
open Go.RowKit
set_option linter.unusedVariables false
set_option linter.unusedSectionVars false
def caught {α : Type} (r : Except (Int × Int) (List α × Int × Int)) : List α × Int × Int := match r with | .ok x => x | .error e => ([], e.1, e.2)
theorem toXq {P : Program} {fn : Func} {M : Nat → Prop} {w0 : Bs} {w : World} {a : Act} {E R : Type} {r : R} {A : R → AV → List It → Prop} {B : E → Value → List It → Prop} (h : bodyPost P fn (RetH M w0 (A r)) .ret a w) : bodyPost P fn (RetX M w0 (qX (.ok r) A B)) .ret a w := toX h fun y I hA => ⟨r, rfl, hA⟩
/-- A contract of a function that defers, and does not panic. -/
theorem enterR {P : Program} {f : FuncId} {fn : Func} {c : Code} {n : Nat} {xs : List AV} {I : List It} {Q : AV → List It → Prop} (hf : P.funcs[f]? = some fn) (hb : fn.body = some c) (hn : fn.ntmps = n) (hle : Nat.ble xs.length n = true)
    (h : ∀ M (w0 : Bs) a, S M w0 a w0.toWorld n I (start 0 xs) → c.wp P (bodyPostD P fn (RetH M w0 Q)) a w0.toWorld) : OkH P f xs I Q := by
  intro M w vs hO hL
  refine calls_of_wp_defers hf hb (h M ⟨w, footL I⟩ _ ?_)
  rw [hn]
  exact start_S hle hO hL
theorem enterIdle {P : Program} {f : FuncId} {fn : Func} {n id d : Nat} {o0 : Oper} {rest : List Oper} {y : Code} {xs : List AV} {I : List It} {Q : AV → List It → Prop} (hf : P.funcs[f]? = some fn) (hb : fn.body = some (.seq (.region id (o0 :: rest).toArray false) y)) (hn : fn.ntmps = n) (hle : Nat.ble xs.length n = true)
    (hg : o0.guard = none) (hd : o0.dst = some d) (hlt : Nat.blt d n = true) (hfr : chFree (start 0 xs) d = true) (hr : ∀ ρ w, (execOp ρ o0).run P w = .ok .recover w)
    (h : ∀ M (w0 : Bs) a, S M w0 a w0.toWorld n I ((d, [], .lit .nilIface) :: start 0 xs) → ∀ K : Act → World → Prop, (∀ a w, y.wp P (bodyPost P fn (RetH M w0 Q)) a w → K a w) → wpList P (o0 :: rest).toArray (Exit.then K (bodyPost P fn (RetH M w0 Q))) rest a w0.toWorld) : OkRH P f xs I .returning .returning Q :=
  enterRec hf hb hn hle hg hd hlt hfr hr (fun c₀ cs hu => .inr ⟨by simp [recoverD, hu], rfl, rfl⟩) h
theorem enterPan {P : Program} {f : FuncId} {fn : Func} {n id d : Nat} {o0 : Oper} {rest : List Oper} {y : Code} {xs : List AV} {I : List It} {pv : Value} {Q : AV → List It → Prop} (hf : P.funcs[f]? = some fn) (hb : fn.body = some (.seq (.region id (o0 :: rest).toArray false) y)) (hn : fn.ntmps = n) (hle : Nat.ble xs.length n = true)
    (hg : o0.guard = none) (hd : o0.dst = some d) (hlt : Nat.blt d n = true) (hfr : chFree (start 0 xs) d = true) (hr : ∀ ρ w, (execOp ρ o0).run P w = .ok .recover w)
    (h : ∀ M (w0 : Bs) a, S M w0 a w0.toWorld n I ((d, [], .lit pv) :: start 0 xs) → ∀ K : Act → World → Prop, (∀ a w, y.wp P (bodyPost P fn (RetH M w0 Q)) a w → K a w) → wpList P (o0 :: rest).toArray (Exit.then K (bodyPost P fn (RetH M w0 Q))) rest a w0.toWorld) : OkRH P f xs I (.panicking [pe pv]) (.panicking [{ v := pv, recovered := true }]) Q :=
  enterRec hf hb hn hle hg hd hlt hfr hr (fun c₀ cs hu => .inl (by simp [recoverD, hu])) h
def dfC (F : FuncId) (cp : List Value) : Deferred := { target := .fn (.func F) cp.toArray, args := #[] }
section
variable {P : Program} {M : Nat → Prop} {w0 : Bs} {w : World} {a : Act} {n : Nat} {I I' : List It} {σ : St} {it : It} {j : Nat}
variable {c : Ch} {dst : Option Tmp} {ty : TypeId} {pos : String} {aft : Array Edge} {ops : Array Oper} {K : Exit → Act → World → Prop} {rest : List Oper} {d : Nat} {g : Option (Nat × Bool)} {x y : Operand}
theorem l_deferR {F : FuncId} {cp : List Value} {f : Operand} {tys : Array TypeId} (hk : S M w0 a w n I σ) (hf : opvc σ [] f = some (.lit (.func (.func F) #[] cp.toArray)))
    (h : ∀ a', S M w0 a' w n I σ [dfC F cp] → wpList P ops K rest a' w) :
    wpList P ops K (⟨none, .defer { callee := .value f, args := #[], argTypes := tys }, ty, pos, aft, none⟩ :: rest) a w := by
  unfold wpList
  rw [if_pos (by simp [Region.wanted])]
  left
  unfold Oper.wp
  have hr : (execOp a.eval ⟨none, .defer { callee := .value f, args := #[], argTypes := tys }, ty, pos, aft, none⟩).run P w = .ok (.defer (dfC F cp)) w := by
    simp [execOp, resolve, hk.kn.val (holds_nil a) hf, Deferred.ofValue, dfC]
  rw [hr, Oper.upon_defer]
  refine h _ ⟨hk.own, ?_, hk.kn.size, fun i c x hl => hk.kn.ent i c x hl⟩
  show dfC F cp :: a.defers = _
  rw [hk.kn.defers]
theorem leaveR {fn fc : Func} {u u1 : FrameMode} {F : FuncId} {cp : List Value} {I1 I2 : List It} {js : List Nat} {Q : AV → List It → Prop} {R : Ending → World → Prop} (hk : S M w0 a w n I σ [dfC F cp]) (hp : FW.pick I js = I1 ++ I2) (hu : u ≠ .run)
    (hf : P.funcs[F]? = some fc) (hb : fc.body.isSome = true) (hnm : (fc.name == "runtime.NumGoroutine") = false) (hok : OkRH P F (cp.map .lit) I1 u u1 Q)
    (h : ∀ y I3, Q y I3 → ∀ w', S M w0 a w' n (I3 ++ I2) σ [dfC F cp] → Leaves P fn a.tmps R [] (settle u1) w') : Leaves P fn a.tmps R a.defers u w := by
  have hk1 := hk.pick hp
  rw [hk.kn.defers]
  have hlits : ∀ ok : Nat → Prop, RepL ok w (cp.map .lit) cp := by
    intro ok
    induction cp with
    | nil => exact repL_nil
    | cons v cp ih => exact repL_cons (rep_lit rfl) (repL_lits cp)
  refine leaves_cons (f := F) (args := cp.toArray) hu ?_ ((hok (fun k => M k ∨ footL I2 k) w cp.toArray hk1.own.part (by simpa using hlits _)).mono ?_)
  · have hb' : ¬ fc.body = none := by cases h : fc.body <;> simp_all
    have hn' : ¬ fc.name = "runtime.NumGoroutine" := by simpa using hnm
    simp only [invoke]
    simp [callFunc, hf, hb', hn']
  · rintro e u' w' ⟨rfl, v, y, I3, rfl, hq, ho, hr⟩
    obtain ⟨ho', hgo⟩ := hk1.own.join ho
    exact h y I3 hq w' ⟨ho', hk1.kn.go hgo⟩
theorem leaveR_ret {fn fc : Func} {F : FuncId} {cp : List Value} {I1 I2 : List It} {js : List Nat} {Q A : AV → List It → Prop} (hk : S M w0 a w n I σ [dfC F cp]) (hp : FW.pick I js = I1 ++ I2)
    (hf : P.funcs[F]? = some fc) (hb : fc.body.isSome = true) (hnm : (fc.name == "runtime.NumGoroutine") = false) (hok : OkRH P F (cp.map .lit) I1 .returning .returning Q)
    (h : ∀ y I3, Q y I3 → ∀ a w', S M w0 a w' n (I3 ++ I2) σ → bodyPost P fn (RetH M w0 A) .ret a w') : bodyPostD P fn (RetH M w0 A) .ret a w := by
  refine leaveR hk hp (by simp) hf hb hnm hok fun y I3 hq w' hk' => ?_
  obtain ⟨_, v, hr, hR⟩ := h y I3 hq _ w' hk'.bare
  exact ⟨v, hr, hR⟩
theorem leaveR_pan {fn fc : Func} {F : FuncId} {cp : List Value} {I1 I2 : List It} {js : List Nat} {pv : Value} {Q A : AV → List It → Prop} (hk : S M w0 a w n I σ [dfC F cp]) (hp : FW.pick I js = I1 ++ I2)
    (hf : P.funcs[F]? = some fc) (hb : fc.body.isSome = true) (hnm : (fc.name == "runtime.NumGoroutine") = false) (hok : OkRH P F (cp.map .lit) I1 (.panicking [pe pv]) (.panicking [{ v := pv, recovered := true }]) Q)
    (h : ∀ y I3, Q y I3 → ∀ a w', S M w0 a w' n (I3 ++ I2) σ → bodyPost P fn (RetH M w0 A) .ret a w') : bodyPostD P fn (RetH M w0 A) (.panic [pe pv]) a w := by
  refine leaveR hk hp (by simp) hf hb hnm hok fun y I3 hq w' hk' => ?_
  obtain ⟨_, v, hr, hR⟩ := h y I3 hq _ w' hk'.bare
  exact ⟨v, hr, hR⟩
/-! Faults. -/
theorem f_iface2 {t : TypeId} {D : TypeDesc} {p q : Int} (hk : S M w0 a w n I σ Df) (hc : holds a c) (hu : P.underlying t = some D) (hd : isAggD D = true) (hx : opvc σ c x = some (.agg [.lit (.int .i64 p), .lit (.int .i64 q)])) :
    Fun P (okM M I) ⟨dst, .makeInterface t x, ty, pos, aft, g⟩ a w (.lit (faultV t (p, q))) := by
  have h := hk.kn.rep hc hx
  simp only [Rep, RepL] at h
  obtain ⟨vs, hv, v1, r1, h1, rfl, v2, r2, rfl, rfl, rfl⟩ := h
  have hvs : vs = #[.int .i64 p, .int .i64 q] := by
    have := congrArg List.toArray h1; simpa using this
  refine .inl ⟨faultV t (p, q), w, ?_, New.refl w, rep_lit rfl⟩
  subst hvs
  cases D <;> simp [isAggD] at hd <;> simp [execOp, Instr.makeInterface, run_underlying hu, hv, faultV]
theorem f_tassertT {t xt : TypeId} {D : TypeDesc} {e : Int × Int} (hk : S M w0 a w n I σ Df) (hc : holds a c) (hu : P.underlying t = some D) (hd : isAggD D = true) (hx : opvc σ c x = some (.lit (faultV t e))) :
    Fun P (okM M I) ⟨dst, .typeAssert x xt t true, ty, pos, aft, g⟩ a w (.tup [.agg [.lit (.int .i64 e.1), .lit (.int .i64 e.2)], .lit (.bool true)]) := by
  refine .inl ⟨.tuple #[.agg #[.int .i64 e.1, .int .i64 e.2], .bool true], w, ?_, New.refl w, by simp [Rep, RepL]⟩
  cases D <;> simp [isAggD] at hd <;> simp [execOp, Instr.typeAssert, run_underlying hu, hk.kn.val hc hx, faultV]
theorem f_tassertN {t xt : TypeId} {D : TypeDesc} (hk : S M w0 a w n I σ Df) (hc : holds a c) (hu : P.underlying t = some D) (hd : isAggD D = true) (hx : opvc σ c x = some (.lit .nilIface)) (hz : ∀ w, (zeroValue t).run P w = .ok (.agg #[.int .i64 0, .int .i64 0]) w) :
    Fun P (okM M I) ⟨dst, .typeAssert x xt t true, ty, pos, aft, g⟩ a w (.tup [.agg [.lit (.int .i64 0), .lit (.int .i64 0)], .lit (.bool false)]) := by
  refine .inl ⟨.tuple #[.agg #[.int .i64 0, .int .i64 0], .bool false], w, ?_, New.refl w, by simp [Rep, RepL]⟩
  cases D <;> simp [isAggD] at hd <;> simp [execOp, Instr.typeAssert, run_underlying hu, hk.kn.val hc hx, hz]
theorem leave_retq {fn fc : Func} {t : TypeId} {b0 dn : Nat} {F : FuncId} {bs : List Nat} {z : Int} {I2 : List It} {js : List Nat} {E R : Type} {r : R} {A : R → AV → List It → Prop} {B : E → Value → List It → Prop} (Ob : Int → List It) (hk : S M w0 a w n I σ (bs.map (dfI F))) (hp : FW.pick I js = boxesI t bs b0 dn :: (Ob z ++ I2))
    (hf : P.funcs[F]? = some fc) (hb : fc.body.isSome = true) (hnm : (fc.name == "runtime.NumGoroutine") = false)
    (hF : ∀ x nb, OkDH P F [.lit (.pointer (some ⟨nb, 0, none⟩))] (blk nb t [.lit (.pointer (some ⟨b0, 0, none⟩))] :: Ob x) (fun y I => y = .tup [] ∧ I = blk nb t [.lit (.pointer (some ⟨b0, 0, none⟩))] :: Ob (IntKind.wrap .i64 (x - 1))))
    (h : ∀ a w', S M w0 a w' n (Ob (decrN dn z) ++ I2) σ → bodyPost P fn (RetH M w0 (A r)) .ret a w') : bodyPostD P fn (RetX M w0 (qX (.ok r) A B)) .ret a w :=
  leave_ret Ob hk hp hf hb hnm hF h fun y I hA => ⟨r, rfl, hA⟩
end
end Go.Proofs.Ytbjbgodcenopnaa.FW

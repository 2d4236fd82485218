/- Further steps of a walk: what is known ahead, what is kept, the lesser and the greater of two. -/
import Derived.Test.YtaoffkhflmndhaaHp
namespace Go.Proofs.Ytaoffkhflmndhaa.FW
variable {Df : List Deferred}
open Go.RowKit
set_option linter.unusedVariables false
set_option linter.unusedSimpArgs false
set_option linter.unusedSectionVars false
section
variable {P : Program} {M : Nat → Prop} {w0 : Bs} {w : World} {a : Act} {n : Nat} {I I1 I2 : List It} {σ : St} {Q : Exit → Act → World → Prop}
theorem S.dropTail : ∀ {I2 I1 : List It}, S M w0 a w n (I1 ++ I2) σ Df → S M w0 a w n I1 σ Df
  | [], I1, h => by simpa using h
  | it :: I2, I1, h => by
    have h1 := h.drop I1.length
    rw [List.eraseIdx_append_of_length_le (Nat.le_refl _)] at h1
    simp only [Nat.sub_self, List.eraseIdx_cons_zero] at h1
    exact S.dropTail h1
/-- Some items are kept, in a row. -/
theorem S.keep {js : List Nat} (h : S M w0 a w n I σ Df) (hp : FW.pick I js = I1 ++ I2) : S M w0 a w n I1 σ Df := (h.pick hp).dropTail
theorem S.cast {I' : List It} {σ' : St} (h : S M w0 a w n I σ Df) (hI : I = I') (hσ : σ = σ') : S M w0 a w n I' σ' Df := by subst hI; subst hσ; exact h
theorem wcondT {t : Operand} {x y : Code} (hk : S M w0 a w n I σ Df) (ht : opvc σ [] t = some (.lit (.bool true))) (h1 : x.wp P Q a w) : (Code.cond t x y).wp P Q a w := wcond hk ht (fun _ => h1) (fun h => by cases h)
theorem wcondX {t : Operand} {x y : Code} (hk : S M w0 a w n I σ Df) (ht : opvc σ [] t = some (.lit (.bool false))) (h1 : y.wp P Q a w) : (Code.cond t x y).wp P Q a w := wcond hk ht (fun h => by cases h) (fun _ => h1)
/-- A guard that does not hold. -/
theorem noHold {ok : Nat → Prop} {g : Nat} {b want : Bool} {c : Ch} (hk : Knows ok a w n σ Df) (hl : look σ g = some ([], .lit (.bool b))) (hb : (b == want) = false) : ¬ holds a ((g, want) :: c) := by
  intro hh
  have h1 := hh (g, want) List.mem_cons_self
  have h2 := (hk.ent g [] _ hl).1 (holds_nil a)
  simp only [Rep] at h2
  rw [h2] at h1
  injection h1 with h1
  subst h1
  simp at hb
end
section
variable {P : Program} {ok : Nat → Prop} {a : Act} {wk : World} {n : Nat} {σ : St} {c : Ch} {dst : Option Tmp} {ty : TypeId} {pos : String} {aft : Array Edge} {g : Option (Nat × Bool)} {x y z : Operand} {k : IntKind} {p q : Int} {tys : Array TypeId} {v : Value}
theorem holds_more {s : Nat} {b : Bool} (hk : Knows ok a wk n σ Df) (hc : holds a c) (hs : opvc σ c (.tmp s) = some (.lit (.bool b))) : holds a ((s, b) :: c) := by
  intro p hp
  rcases List.mem_cons.1 hp with rfl | hp
  · exact hk.val hc hs
  · exact hc p hp
theorem p_pickT {s : Nat} (hk : Knows ok a wk n σ Df) (hc : holds a c) (hs : opvc σ c (.tmp s) = some (.lit (.bool true))) (hx : opvc σ ((s, true) :: c) y = some (.lit v)) : PureOp P a ⟨dst, .pick (.tmp s) y z, ty, pos, aft, g⟩ v := by
  intro w; simp [execOp, hk.val hc hs, hk.val (holds_more hk hc hs) hx, asBool]
theorem p_pickX {s : Nat} (hk : Knows ok a wk n σ Df) (hc : holds a c) (hs : opvc σ c (.tmp s) = some (.lit (.bool false))) (hx : opvc σ ((s, false) :: c) z = some (.lit v)) : PureOp P a ⟨dst, .pick (.tmp s) y z, ty, pos, aft, g⟩ v := by
  intro w; simp [execOp, hk.val hc hs, hk.val (holds_more hk hc hs) hx, asBool]
theorem p_min (hk : Knows ok a wk n σ Df) (hc : holds a c) (hx : opvc σ c x = some (.lit (.int k p))) (hy : opvc σ c y = some (.lit (.int k q))) :
    PureOp P a ⟨dst, .call { callee := .builtin .min, args := #[x, y], argTypes := tys }, ty, pos, aft, g⟩ (.int k (if q < p then q else p)) := by
  intro w; simp [execOp, resolve, invoke, builtin, hk.val hc hx, hk.val hc hy, Builtin.min_, Builtin.min2]
theorem p_max (hk : Knows ok a wk n σ Df) (hc : holds a c) (hx : opvc σ c x = some (.lit (.int k p))) (hy : opvc σ c y = some (.lit (.int k q))) :
    PureOp P a ⟨dst, .call { callee := .builtin .max, args := #[x, y], argTypes := tys }, ty, pos, aft, g⟩ (.int k (if p < q then q else p)) := by
  intro w; simp [execOp, resolve, invoke, builtin, hk.val hc hx, hk.val hc hy, Builtin.max_, Builtin.max2]
end
end Go.Proofs.Ytaoffkhflmndhaa.FW

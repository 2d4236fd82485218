/- Function values that bear what they have of their surroundings. -/
import Derived.Test.YtaoffkhflmndhaaHq
namespace Go.Proofs.Ytaoffkhflmndhaa
variable {Df : List Deferred}
open Go.RowKit
set_option linter.unusedVariables false
namespace FW
section
variable {P : Program} {M : Nat → Prop} {w0 : Bs} {w : World} {a : Act} {n : Nat} {I : List It} {σ : St} {c : Ch} {dst : Option Tmp} {ty : TypeId} {pos : String} {aft : Array Edge} {g : Option (Nat × Bool)}
def litsA (σ : St) (c : Ch) : List Operand → Option (List Value)
  | [] => some []
  | x :: r => match opvc σ c x, litsA σ c r with
    | some (.lit v), some vs => some (v :: vs)
    | _, _ => none
theorem litsA_eval (hk : Knows (okM M I) a w n σ Df) (hc : holds a c) : ∀ {ps : List Operand} {vs : List Value}, litsA σ c ps = some vs → ps.map a.eval = vs
  | [], vs, h => by simp only [litsA, Option.some.injEq] at h; subst h; rfl
  | x :: r, vs, h => by
    simp only [litsA] at h
    split at h
    · rename_i v vs' h1 h2
      simp only [Option.some.injEq] at h
      subst h
      simp [hk.val hc h1, litsA_eval hk hc h2]
    · cases h
/-- A function value that bears what it has of its surroundings. -/
theorem f_makeFunc {fid : FuncId} {ps : List Operand} {vs : List Value} (hk : S M w0 a w n I σ Df) (hc : holds a c) (hx : litsA σ c ps = some vs) :
    Fun P (okM M I) ⟨dst, .makeFunc (.func fid) #[] ps.toArray, ty, pos, aft, g⟩ a w (.lit (.func (.func fid) #[] vs.toArray)) := by
  refine .inl ⟨_, w, ?_, New.refl w, rep_lit rfl⟩
  have h := litsA_eval hk.kn hc hx
  subst h
  simp [execOp, Instr.makeFunc]
end
end FW
end Go.Proofs.Ytaoffkhflmndhaa

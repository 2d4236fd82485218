/- Numbers turned into floats, products of floats. -/
import Derived.Test.YtbjbgodcenopnaaAvOps
namespace Go.Proofs.Ytbjbgodcenopnaa.FW
variable {Df : List Deferred}
open Go.RowKit
set_option linter.unusedVariables false
set_option linter.unusedSimpArgs false
section
variable {P : Program} {ok : Nat → Prop} {a : Act} {wk : World} {n : Nat} {σ : St} {c : Ch} {dst : Option Tmp} {ty : TypeId} {pos : String} {aft : Array Edge} {g : Option (Nat × Bool)} {t t' : TypeId} {x y : Operand} {p q : Nat}
def i2f (n : Int) : Nat := FloatKind.f64.nearest n
theorem p_i2f {s d : TypeId} {D : TypeDesc} {k : IntKind} {m : Int} (hs : P.underlying s = some D) (hd : P.underlying d = some (.float .f64)) (hk : Knows ok a wk n σ Df) (hc : holds a c) (hx : opvc σ c x = some (.lit (.int k m))) :
    PureOp P a ⟨dst, .convert s d x, ty, pos, aft, g⟩ (.float .f64 (i2f m)) := by
  intro w; simp [execOp, hk.val hc hx, convert, run_underlying hs, run_underlying hd, Conv.intToFloat, i2f]
def fmul (p q : Nat) : Nat := (FloatKind.f64.format.mul p q).getD 0
theorem p_fmul (hk : Knows ok a wk n σ Df) (hc : holds a c) (hx : opvc σ c x = some (.lit (.float .f64 p))) (hy : opvc σ c y = some (.lit (.float .f64 q))) (h : asmP σ c ((FloatKind.f64.format.mul p q).isSome = true)) :
    PureOp P a ⟨dst, .binOp .mul t x y t', ty, pos, aft, g⟩ (.float .f64 (fmul p q)) := by
  have h := asm_out hk hc h
  obtain ⟨r, hr⟩ := Option.isSome_iff_exists.1 h
  intro w; simp [execOp, hk.val hc hx, hk.val hc hy, eqGuard_float, binOp, Op.floatArith, hr, fmul]
end
theorem h0 {a : Act} : holds a [] := holds_nil a
end Go.Proofs.Ytbjbgodcenopnaa.FW

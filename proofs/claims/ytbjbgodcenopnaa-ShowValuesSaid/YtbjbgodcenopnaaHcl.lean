/- A slice whose capacity is cut to its length. -/
import Derived.Test.YtbjbgodcenopnaaAvFun
namespace Go.Proofs.Ytbjbgodcenopnaa.FW
variable {Df : List Deferred}
open Go.RowKit
set_option linter.unusedVariables false
section
variable {P : Program} {M : Nat → Prop} {w0 : Bs} {w : World} {a : Act} {n : Nat} {I : List It} {σ : St} {c : Ch} {dst : Option Tmp} {ty : TypeId} {pos : String} {aft : Array Edge} {g : Option (Nat × Bool)} {x : Operand}
theorem f_clip {α : Type} {f : α → List AV} {R : List α → List (List AV)} {l : List α} {t e : TypeId} {sz : Nat} {hi mx : Operand} (hR : ∀ l, R l = l.map f) (hsz : ∀ x, (f x).length = sz) (hk : S M w0 a w n I σ Df) (hc : holds a c)
    (hx : opvc σ c x = some (.row (R l))) (hu : P.underlying t = some (.slice e)) (hs : (P.info? e).map (·.size) = some sz)
    (hq : opvc σ c hi = some (.lit (.int .i64 (l.length : Int)))) (hm : opvc σ c mx = some (.lit (.int .i64 (l.length : Int)))) :
    Fun P (okM M I) ⟨dst, .slice t x none (some hi) (some mx), ty, pos, aft, g⟩ a w (.row (R l)) := by
  rw [hR] at hx ⊢
  have hr := hk.kn.rep hc hx
  obtain ⟨ad, cap, hv, hcp⟩ := rep_slice hr
  simp only [List.length_map] at hv hcp
  obtain ⟨inf, hinf, hs'⟩ := Option.map_eq_some_iff.1 hs
  have hr2 : Rep (okM M I) w (.row (l.map f)) (.slice ad l.length l.length) := by
    simp only [Rep] at hr ⊢
    obtain ⟨a', cap', hv', hcp', hx'⟩ := hr
    rw [hv] at hv'
    injection hv' with e1 e2 e3
    subst e1; subst e3
    exact ⟨ad, l.length, by simp, by simp, hx'⟩
  have hpart := rep_part hsz hr2 rfl 0 l.length (by omega) (by omega)
  have el : (l.drop 0).take (l.length - 0) = l := by simp
  rw [el] at hpart
  refine .inl ⟨_, w, ?_, New.refl w, hpart⟩
  have hb : (Instr.sliceBounds true l.length cap none (some (.int .i64 (l.length : Int))) (some (.int .i64 (l.length : Int)))).run P w = .ok (0, l.length, l.length) w := by
    simp [Instr.sliceBounds, Instr.sliceBound, asIntOf, show (l.length : Int) ≤ (cap : Int) from by omega]
  simp only [execOp, hv, Option.map_none, Option.map_some, hk.kn.val hc hq, hk.kn.val hc hm, Instr.sliceAt, Sem.run_bind, run_underlying hu, Result.andThen_ok, Instr.slice, hb, sizeOf, typeInfo]
  simp [hinf, hs']
end
end Go.Proofs.Ytbjbgodcenopnaa.FW

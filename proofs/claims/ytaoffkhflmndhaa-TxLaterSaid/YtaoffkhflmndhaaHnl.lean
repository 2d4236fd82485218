/- Nil slices that are handed to functions. -/
import Derived.Test.YtaoffkhflmndhaaHc
namespace Go.Proofs.Ytaoffkhflmndhaa.FW
set_option linter.unusedVariables false
theorem OkH.nil1 {P : Program} {f : FuncId} {x : AV} {I : List It} {Q : AV → List It → Prop} (h : OkH P f [x, .row []] I Q) : OkH P f [x, .lit (.slice none 0 0)] I Q := fun M w vs hM hr => h M w vs hM (by
  obtain ⟨v, r, e, h1, v2, r2, e2, h2, h3⟩ := hr
  refine ⟨v, r, e, h1, v2, r2, e2, ?_, h3⟩
  have h2' : v2 = .slice none 0 0 := by simpa [Rep] using h2
  rw [h2']; exact rep_nil)
end Go.Proofs.Ytaoffkhflmndhaa.FW

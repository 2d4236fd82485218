/- Plain law of ParseDeep: 149 steps. -/
import Derived.Test.YtbjbgodcenopnaaPureDeep
namespace Go.Proofs.Ytbjbgodcenopnaa
set_option maxRecDepth 100000
theorem u_148 : errE (deepU 148) = some 0 := by decide +kernel
end Go.Proofs.Ytbjbgodcenopnaa

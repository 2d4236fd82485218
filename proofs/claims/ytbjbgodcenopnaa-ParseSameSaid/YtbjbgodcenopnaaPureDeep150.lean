/- Plain law of ParseDeep: 151 steps. -/
import Derived.Test.YtbjbgodcenopnaaPureDeep
namespace Go.Proofs.Ytbjbgodcenopnaa
set_option maxRecDepth 100000
theorem u_150 : errE (deepU 150) = some 3 := by decide +kernel
end Go.Proofs.Ytbjbgodcenopnaa

/- Plain law of ParseDeep: 152 steps. -/
import Derived.Test.YtbjbgodcenopnaaPureDeep
namespace Go.Proofs.Ytbjbgodcenopnaa
set_option maxRecDepth 100000
theorem u_151 : errE (deepU 151) = some 3 := by decide +kernel
end Go.Proofs.Ytbjbgodcenopnaa

/- Plain law of ParseDeep: 150 steps. -/
import Derived.Test.YtbjbgodcenopnaaPureDeep
namespace Go.Proofs.Ytbjbgodcenopnaa
set_option maxRecDepth 100000
theorem u_149 : errE (deepU 149) = some 0 := by decide +kernel
end Go.Proofs.Ytbjbgodcenopnaa

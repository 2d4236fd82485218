/- Further library functions as plain Lean functions. -/
import Derived.Test.YtbjbgodcenopnaaAvManD
import Derived.Lib.Join
namespace Go.Proofs.Ytbjbgodcenopnaa
def strings_Join.f (xs : List (List UInt8)) (sep : List UInt8) : Option (List UInt8) := if xs.length ≤ 140737488355328 ∧ (Lib.join xs sep).length ≤ 140737488355328 then some (Lib.join xs sep) else none
end Go.Proofs.Ytbjbgodcenopnaa

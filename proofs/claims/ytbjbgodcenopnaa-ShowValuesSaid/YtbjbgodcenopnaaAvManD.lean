/- Library functions as plain Lean functions. -/
import Derived.Test.YtbjbgodcenopnaaAvOps
import Derived.Lib.Strings
import Derived.Lib.Bytealg
namespace Go.Proofs.Ytbjbgodcenopnaa
def strings_IndexByte.f (v0 : List UInt8) (v1 : Int) : Option Int := some (Lib.indexByte v0 v1.toNat.toUInt8)
def strings_CutPrefix.f (v0 v1 : List UInt8) : Option (List UInt8 × Bool) := some (Lib.trimPrefix v0 v1, Lib.hasPrefix v0 v1)
def bits_Mul64.f (v0 v1 : Int) : Option (Int × Int) := if (0 ≤ v0 ∧ v0 < 18446744073709551616) ∧ 0 ≤ v1 ∧ v1 < 18446744073709551616 then some (v0 * v1 / 18446744073709551616, v0 * v1 % 18446744073709551616) else none
end Go.Proofs.Ytbjbgodcenopnaa

/- Library functions as plain Lean functions. -/
import Derived.Test.YtimaibcaehagjaaAvOps
import Derived.Lib.Strings
import Derived.Lib.Bytealg
namespace Go.Proofs.Ytimaibcaehagjaa
def bits_Mul64.f (v0 v1 : Int) : Option (Int × Int) := if (0 ≤ v0 ∧ v0 < 18446744073709551616) ∧ 0 ≤ v1 ∧ v1 < 18446744073709551616 then some (v0 * v1 / 18446744073709551616, v0 * v1 % 18446744073709551616) else none
end Go.Proofs.Ytimaibcaehagjaa

/- Further library functions as plain Lean functions. -/
import Derived.Test.YtimaibcaehagjaaAvManD
import Derived.Lib.Join
namespace Go.Proofs.Ytimaibcaehagjaa
end Go.Proofs.Ytimaibcaehagjaa

/- The arguments of the laws of log: texts. -/
import Derived.Test.YtimaibcaehagjaaHo
import Derived.Test.YtimaibcaehagjaaDvD
namespace Go.Proofs.Ytimaibcaehagjaa
set_option linter.unusedVariables false
theorem open_row_str {W : World} : FW.OpenT Try.prog W 61 (fun l : List (List UInt8) => [.row (r_c_str l)]) (fun l => ∀ x ∈ l, x.length ≤ maxLen) :=
  FW.openT_slice (sz := 1) r_c_str_eq Try.underlying61 (by kernel_rfl) (fun _ => rfl) (by decide) (FW.openT_str Try.underlying9)
end Go.Proofs.Ytimaibcaehagjaa

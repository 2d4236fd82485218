/- The arguments of the laws of log, with falls: texts, falls, flags. -/
import Derived.Test.YtimaibcaehagjaaHo
import Derived.Test.YtimaibcaehagjaaLhD
namespace Go.Proofs.Ytimaibcaehagjaa
open Go.ChangeShapes Go.WideShapes Go.ChangeAt Go.RowKit
set_option linter.unusedVariables false
theorem open_row_str {W : World} : FW.OpenT Try.prog W 61 (fun l : List (List UInt8) => [.row (r_c_str l)]) (fun l => ∀ x ∈ l, x.length ≤ maxLen) :=
  FW.openT_slice (sz := 1) r_c_str_eq Try.underlying61 (by kernel_rfl) (fun _ => rfl) (by decide) (FW.openT_str Try.underlying9)
theorem open_row_bool {W : World} : FW.OpenT Try.prog W 90 (fun l : List Bool => [.row (r_c_bool l)]) (fun l => ∀ x ∈ l, True) :=
  FW.openT_slice (sz := 1) r_c_bool_eq Try.underlying90 (by kernel_rfl) (fun _ => rfl) (by decide) (FW.openT_bool Try.underlying4)
theorem open_fall {W : World} : FW.OpenT Try.prog W 45 ApiFall.cells (fun _ => True) := by
  intro H enc sp n cs x h
  obtain ⟨xs, n', rfl, _, hlen, hxl, hx⟩ := DataW.trod_struct Try.underlying45 h
  obtain ⟨v0, _, r0⟩ := FW.open_fld hx hxl (i := 0) rfl rfl (m := 1) (by kernel_rfl) (FW.openT_int Try.underlying3)
  obtain ⟨v1, _, r1⟩ := FW.open_fld hx hxl (i := 1) rfl rfl (m := 1) (by kernel_rfl) (FW.openT_int Try.underlying29)
  obtain ⟨v2, _, r2⟩ := FW.open_fld hx hxl (i := 2) rfl rfl (m := 1) (by kernel_rfl) (FW.openT_int Try.underlying3)
  exact ⟨⟨v0, v1, v2⟩, trivial, FW.seg_all (m := 3) (FW.seg_cons r0 (FW.seg_cons r1 r2)) (by rw [hlen]; kernel_rfl)⟩
theorem open_row_ApiFall {W : World} : FW.OpenT Try.prog W 74 (fun l : List ApiFall => [.row (r_ApiFall_cells l)]) (fun l => ∀ x ∈ l, True) :=
  FW.openT_slice (sz := 3) r_ApiFall_cells_eq Try.underlying74 (by kernel_rfl) (fun _ => rfl) (by decide) open_fall
end Go.Proofs.Ytimaibcaehagjaa

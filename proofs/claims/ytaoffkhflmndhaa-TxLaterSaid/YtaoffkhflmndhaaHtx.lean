/- The arguments of the laws of tx: changes. -/
import Derived.Test.YtaoffkhflmndhaaHo
import Derived.Test.YtaoffkhflmndhaaTxD
namespace Go.Proofs.Ytaoffkhflmndhaa
open Go.ChangeShapes Go.WideShapes Go.ChangeAt Go.RowKit
set_option linter.unusedVariables false
theorem open_ApiChange {W : World} : FW.OpenT Try.prog W 31 ApiChange.cells (fun _ => True) := by
  intro H enc sp n cs x h
  obtain ⟨xs, n', rfl, _, hlen, hxl, hx⟩ := DataW.trod_struct Try.underlying31 h
  obtain ⟨v0, _, r0⟩ := FW.open_fld hx hxl (i := 0) rfl rfl (m := 1) (by kernel_rfl) (FW.openT_int Try.underlying29)
  obtain ⟨v1, _, r1⟩ := FW.open_fld hx hxl (i := 1) rfl rfl (m := 1) (by kernel_rfl) (FW.openT_str Try.underlying9)
  obtain ⟨v2, _, r2⟩ := FW.open_fld hx hxl (i := 2) rfl rfl (m := 1) (by kernel_rfl) (FW.openT_bool Try.underlying4)
  exact ⟨⟨v0, v1, v2⟩, trivial, FW.seg_all (m := 3) (FW.seg_cons r0 (FW.seg_cons r1 r2)) (by rw [hlen]; kernel_rfl)⟩
theorem open_row_ApiChange {W : World} : FW.OpenT Try.prog W 22 (fun l : List ApiChange => [.row (r_ApiChange_cells l)]) (fun l => ∀ x ∈ l, True) :=
  FW.openT_slice (sz := 3) r_ApiChange_cells_eq Try.underlying22 (by kernel_rfl) (fun _ => rfl) (by decide) open_ApiChange
end Go.Proofs.Ytaoffkhflmndhaa

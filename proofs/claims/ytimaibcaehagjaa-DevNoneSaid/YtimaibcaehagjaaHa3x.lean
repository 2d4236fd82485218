/- The arguments of the laws of dev: acts and a fall. -/
import Derived.Test.YtimaibcaehagjaaHo
import Derived.Test.YtimaibcaehagjaaDaD
namespace Go.Proofs.Ytimaibcaehagjaa
open Go.ChangeShapes Go.WideShapes Go.ChangeAt Go.RowKit
set_option linter.unusedVariables false
theorem open_ApiFall {W : World} : FW.OpenT Try.prog W 45 ApiFall.cells (fun _ => True) := by
  intro H enc sp n cs x h
  obtain ⟨xs, n', rfl, _, hlen, hxl, hx⟩ := DataW.trod_struct Try.underlying45 h
  obtain ⟨v0, _, r0⟩ := FW.open_fld hx hxl (i := 0) rfl rfl (m := 1) (by kernel_rfl) (FW.openT_int Try.underlying3)
  obtain ⟨v1, _, r1⟩ := FW.open_fld hx hxl (i := 1) rfl rfl (m := 1) (by kernel_rfl) (FW.openT_int Try.underlying29)
  obtain ⟨v2, _, r2⟩ := FW.open_fld hx hxl (i := 2) rfl rfl (m := 1) (by kernel_rfl) (FW.openT_int Try.underlying3)
  exact ⟨⟨v0, v1, v2⟩, trivial, FW.seg_all (m := 3) (FW.seg_cons r0 (FW.seg_cons r1 r2)) (by rw [hlen]; kernel_rfl)⟩
theorem open_Offshootlaw03Act {W : World} : FW.OpenT Try.prog W 51 Offshootlaw03Act.cells (fun _ => True) := by
  intro H enc sp n cs x h
  obtain ⟨xs, n', rfl, _, hlen, hxl, hx⟩ := DataW.trod_struct Try.underlying51 h
  obtain ⟨v0, _, r0⟩ := FW.open_fld hx hxl (i := 0) rfl rfl (m := 1) (by kernel_rfl) (FW.openT_int Try.underlying3)
  obtain ⟨v1, _, r1⟩ := FW.open_fld hx hxl (i := 1) rfl rfl (m := 1) (by kernel_rfl) (FW.openT_int Try.underlying3)
  obtain ⟨v2, _, r2⟩ := FW.open_fld hx hxl (i := 2) rfl rfl (m := 1) (by kernel_rfl) (FW.openT_int Try.underlying5)
  obtain ⟨v3, _, r3⟩ := FW.open_fld hx hxl (i := 3) rfl rfl (m := 1) (by kernel_rfl) (FW.openT_bool Try.underlying4)
  obtain ⟨v4, _, r4⟩ := FW.open_fld hx hxl (i := 4) rfl rfl (m := 3) (by kernel_rfl) open_ApiFall
  exact ⟨⟨v0, v1, v2, v3, v4⟩, trivial, FW.seg_all (m := 7) (FW.seg_cons r0 (FW.seg_cons r1 (FW.seg_cons r2 (FW.seg_cons r3 r4)))) (by rw [hlen]; kernel_rfl)⟩
theorem open_row_Offshootlaw03Act {W : World} : FW.OpenT Try.prog W 43 (fun l : List Offshootlaw03Act => [.row (r_Offshootlaw03Act_cells l)]) (fun l => ∀ x ∈ l, True) :=
  FW.openT_slice (sz := 7) r_Offshootlaw03Act_cells_eq Try.underlying43 (by kernel_rfl) (fun _ => rfl) (by decide) open_Offshootlaw03Act
end Go.Proofs.Ytimaibcaehagjaa

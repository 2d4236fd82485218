/- What val.Copy makes of a value without a list. -/
import Derived.Test.YtbjbgodcenopnaaCbD
namespace Go.Proofs.Ytbjbgodcenopnaa
set_option linter.unusedVariables false
theorem val_Copy.nil (s : ApiValue → Option ApiValue) (K : Nat) (v0 : ApiValue) (r : ApiValue) (hl : r_ApiValue_cells v0.L = [])
    (h : (if ((0 : Int) ≤ (List.length v0.L : Int) ∧ ((List.length v0.L : Int) : Int) ≤ 1000000000000) then val_Copy.l1 s K K (List.replicate (Int.toNat (List.length v0.L : Int)) (default : ApiValue)) v0 v0.L (List.length v0.L : Int) 0 else none) = some r) :
    val_Copy.j1 s K v0 = some r := by
  obtain ⟨k, b, n, f, t, l⟩ := v0
  cases l with
  | cons x q => simp [r_ApiValue_cells] at hl
  | nil =>
    rw [if_pos (by simp)] at h
    cases K with
    | zero => simp [val_Copy.l1] at h
    | succ K =>
      rw [val_Copy.l1, if_neg (by simp)] at h
      simpa [val_Copy.j1] using h
end Go.Proofs.Ytbjbgodcenopnaa

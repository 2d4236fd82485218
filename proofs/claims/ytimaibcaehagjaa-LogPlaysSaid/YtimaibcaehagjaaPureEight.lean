/- Plain law of numbers in eight bytes: small ones. -/
import Derived.Test.YtimaibcaehagjaaPureDev
import Derived.Test.YtimaibcaehagjaaLpD
namespace Go.Proofs.Ytimaibcaehagjaa
set_option linter.unusedVariables false
def eightS (n : Nat) : List UInt8 := [0, 0, 0, 0, 0, 0, UInt8.ofNat (n / 256), UInt8.ofNat (n % 256)]
theorem eightS_len (n : Nat) : (eightS n).length = 8 := rfl
set_option maxRecDepth 100000 in
theorem eight_all : ∀ n : Fin 1024, val_Eight.f KD (n.val : Int) = some (eightS n.val) ∧ offshootref02_Eight.f KD (n.val : Int) = some (eightS n.val) ∧ val_Wide.f KD (eightS n.val) = some (n.val : Int) := by decide +kernel
theorem eight_eq {n : Nat} (h : n < 1024) : val_Eight.f KD (n : Int) = some (eightS n) := (eight_all ⟨n, h⟩).1
theorem eight_ref {n : Nat} (h : n < 1024) : offshootref02_Eight.f KD (n : Int) = some (eightS n) := (eight_all ⟨n, h⟩).2.1
theorem wide_eq {n : Nat} (h : n < 1024) : val_Wide.f KD (eightS n) = some (n : Int) := (eight_all ⟨n, h⟩).2.2
end Go.Proofs.Ytimaibcaehagjaa

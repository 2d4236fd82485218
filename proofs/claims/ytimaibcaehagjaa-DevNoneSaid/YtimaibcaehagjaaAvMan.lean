/- Contracts of library functions, out of the shelf's. -/
import Derived.Test.YtimaibcaehagjaaAvMem
import Derived.Test.YtimaibcaehagjaaAvManD
import Derived.Test.YtimaibcaehagjaaProg
import Derived.Test.YtimaibcaehagjaaShelf
import Derived.KernelRfl
namespace Go.Proofs.Ytimaibcaehagjaa
open Go.RowKit
theorem bits_Mul64.ok (v0 v1 : Int) (r : Int × Int) (h : bits_Mul64.f v0 v1 = some r) : FW.Ok Go.Proofs.Try.prog 102 [.lit (.int .u64 v0), .lit (.int .u64 v1)] (.tup [.lit (.int .u64 r.1), .lit (.int .u64 r.2)]) := by
  obtain ⟨hv, h⟩ := FW.chk h
  obtain rfl := Option.some.inj h
  obtain ⟨x, rfl⟩ := Int.eq_ofNat_of_zero_le hv.1.1
  obtain ⟨y, rfl⟩ := Int.eq_ofNat_of_zero_le hv.2.1
  exact FW.ok_lit (us := [.int .u64 (x : Int), .int .u64 (y : Int)]) (Try.bits_Mul64 x y (by omega) (by omega)) fun _ _ => by simp [FW.Rep, FW.RepL]
end Go.Proofs.Ytimaibcaehagjaa

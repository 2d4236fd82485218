/- Contracts of library functions, out of the shelf's. -/
import Derived.Test.YtbjbgodcenopnaaAvMem
import Derived.Test.YtbjbgodcenopnaaAvManD
import Derived.Test.YtbjbgodcenopnaaProg
import Derived.Test.YtbjbgodcenopnaaShelf
import Derived.KernelRfl
namespace Go.Proofs.Ytbjbgodcenopnaa
open Go.RowKit
theorem strings_IndexByte.ok (v0 : List UInt8) (v1 : Int) (r : Int) (h : strings_IndexByte.f v0 v1 = some r) : FW.Ok Go.Proofs.Try.prog 91 [.lit (.string (FW.B v0)), .lit (.int .u8 v1)] (.lit (.int .i64 r)) := by
  obtain rfl := Option.some.inj h
  exact FW.ok_lit (us := [.string (FW.B v0), .int .u8 v1]) (Try.strings_IndexByte (FW.B v0) v1) fun _ _ => FW.rep_lit rfl
theorem strings_CutPrefix.ok (v0 v1 : List UInt8) (r : List UInt8 × Bool) (h : strings_CutPrefix.f v0 v1 = some r) : FW.Ok Go.Proofs.Try.prog 116 [.lit (.string (FW.B v0)), .lit (.string (FW.B v1))] (.tup [.lit (.string (FW.B r.1)), .lit (.bool r.2)]) := by
  obtain rfl := Option.some.inj h
  exact FW.ok_lit (us := [.string (FW.B v0), .string (FW.B v1)]) (Try.strings_CutPrefix (FW.B v0) (FW.B v1)) fun _ _ => by simp [FW.Rep, FW.RepL, FW.B]
theorem bits_Mul64.ok (v0 v1 : Int) (r : Int × Int) (h : bits_Mul64.f v0 v1 = some r) : FW.Ok Go.Proofs.Try.prog 139 [.lit (.int .u64 v0), .lit (.int .u64 v1)] (.tup [.lit (.int .u64 r.1), .lit (.int .u64 r.2)]) := by
  obtain ⟨hv, h⟩ := FW.chk h
  obtain rfl := Option.some.inj h
  obtain ⟨x, rfl⟩ := Int.eq_ofNat_of_zero_le hv.1.1
  obtain ⟨y, rfl⟩ := Int.eq_ofNat_of_zero_le hv.2.1
  exact FW.ok_lit (us := [.int .u64 (x : Int), .int .u64 (y : Int)]) (Try.bits_Mul64 x y (by omega) (by omega)) fun _ _ => by simp [FW.Rep, FW.RepL]
end Go.Proofs.Ytbjbgodcenopnaa

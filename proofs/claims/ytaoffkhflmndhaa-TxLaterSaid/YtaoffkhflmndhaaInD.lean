/- Written by a program of this session (gen.py): functions of the program as plain Lean functions. -/
import Derived.Test.YtaoffkhflmndhaaHu
namespace Go.Proofs.Ytaoffkhflmndhaa
set_option linter.unusedVariables false
set_option maxRecDepth 20000
set_option maxHeartbeats 10000000
def c_bool (x : Bool) : List FW.AV := [.lit (.bool x)]
def c_f64 (x : Nat) : List FW.AV := [.lit (.float .f64 x)]
def c_str (x : List UInt8) : List FW.AV := [.lit (.string (FW.B x))]
def c_i8 (x : Int) : List FW.AV := [.lit (.int .i8 x)]
def c_i16 (x : Int) : List FW.AV := [.lit (.int .i16 x)]
def c_i32 (x : Int) : List FW.AV := [.lit (.int .i32 x)]
def c_i64 (x : Int) : List FW.AV := [.lit (.int .i64 x)]
def c_u8 (x : Int) : List FW.AV := [.lit (.int .u8 x)]
def c_u16 (x : Int) : List FW.AV := [.lit (.int .u16 x)]
def c_u32 (x : Int) : List FW.AV := [.lit (.int .u32 x)]
def c_u64 (x : Int) : List FW.AV := [.lit (.int .u64 x)]
def r_c_u64 (l : List Int) : List (List FW.AV) := l.map c_u64
theorem r_c_u64_eq : ∀ l, r_c_u64 l = l.map c_u64 := fun _ => rfl
abbrev ORow49 := List Int
abbrev ORow49.items (b : Nat) (xd_r : Option Addr) (xc_r : Nat) (x : ORow49) : List FW.It := [FW.orow xd_r xc_r 29 1 c_u64 x]
def bits_Len32.j2  (v0 : Int) (v2 : Int) : Option Int :=
  (if ((0 : Int) ≤ (IntKind.wrap .u8 v0) ∧ (IntKind.wrap .u8 v0) < (List.length ([0, 1, 2, 2, 3, 3, 3, 3, 4, 4, 4, 4, 4, 4, 4, 4, 5, 5, 5, 5, 5, 5, 5, 5, 5, 5, 5, 5, 5, 5, 5, 5, 6, 6, 6, 6, 6, 6, 6, 6, 6, 6, 6, 6, 6, 6, 6, 6, 6, 6, 6, 6, 6, 6, 6, 6, 6, 6, 6, 6, 6, 6, 6, 6, 7, 7, 7, 7, 7, 7, 7, 7, 7, 7, 7, 7, 7, 7, 7, 7, 7, 7, 7, 7, 7, 7, 7, 7, 7, 7, 7, 7, 7, 7, 7, 7, 7, 7, 7, 7, 7, 7, 7, 7, 7, 7, 7, 7, 7, 7, 7, 7, 7, 7, 7, 7, 7, 7, 7, 7, 7, 7, 7, 7, 7, 7, 7, 7, 8, 8, 8, 8, 8, 8, 8, 8, 8, 8, 8, 8, 8, 8, 8, 8, 8, 8, 8, 8, 8, 8, 8, 8, 8, 8, 8, 8, 8, 8, 8, 8, 8, 8, 8, 8, 8, 8, 8, 8, 8, 8, 8, 8, 8, 8, 8, 8, 8, 8, 8, 8, 8, 8, 8, 8, 8, 8, 8, 8, 8, 8, 8, 8, 8, 8, 8, 8, 8, 8, 8, 8, 8, 8, 8, 8, 8, 8, 8, 8, 8, 8, 8, 8, 8, 8, 8, 8, 8, 8, 8, 8, 8, 8, 8, 8, 8, 8, 8, 8, 8, 8, 8, 8, 8, 8, 8, 8, 8, 8, 8, 8, 8, 8, 8, 8, 8, 8, 8, 8, 8, 8, 8, 8, 8, 8, 8, 8] : List UInt8) : Int)) then some ((IntKind.wrap .i64 (v2 + (IntKind.wrap .i64 (FW.bt ([0, 1, 2, 2, 3, 3, 3, 3, 4, 4, 4, 4, 4, 4, 4, 4, 5, 5, 5, 5, 5, 5, 5, 5, 5, 5, 5, 5, 5, 5, 5, 5, 6, 6, 6, 6, 6, 6, 6, 6, 6, 6, 6, 6, 6, 6, 6, 6, 6, 6, 6, 6, 6, 6, 6, 6, 6, 6, 6, 6, 6, 6, 6, 6, 7, 7, 7, 7, 7, 7, 7, 7, 7, 7, 7, 7, 7, 7, 7, 7, 7, 7, 7, 7, 7, 7, 7, 7, 7, 7, 7, 7, 7, 7, 7, 7, 7, 7, 7, 7, 7, 7, 7, 7, 7, 7, 7, 7, 7, 7, 7, 7, 7, 7, 7, 7, 7, 7, 7, 7, 7, 7, 7, 7, 7, 7, 7, 7, 8, 8, 8, 8, 8, 8, 8, 8, 8, 8, 8, 8, 8, 8, 8, 8, 8, 8, 8, 8, 8, 8, 8, 8, 8, 8, 8, 8, 8, 8, 8, 8, 8, 8, 8, 8, 8, 8, 8, 8, 8, 8, 8, 8, 8, 8, 8, 8, 8, 8, 8, 8, 8, 8, 8, 8, 8, 8, 8, 8, 8, 8, 8, 8, 8, 8, 8, 8, 8, 8, 8, 8, 8, 8, 8, 8, 8, 8, 8, 8, 8, 8, 8, 8, 8, 8, 8, 8, 8, 8, 8, 8, 8, 8, 8, 8, 8, 8, 8, 8, 8, 8, 8, 8, 8, 8, 8, 8, 8, 8, 8, 8, 8, 8, 8, 8, 8, 8, 8, 8, 8, 8, 8, 8, 8, 8, 8, 8] : List UInt8) (IntKind.wrap .u8 v0)))))) else none)
def bits_Len32.j1  (v0 : Int) (v2 : Int) : Option Int :=
  (if (decide (256 ≤ v0)) = true then bits_Len32.j2 (FW.shrI .u32 v0 8) (IntKind.wrap .i64 (v2 + 8)) else bits_Len32.j2 v0 v2)
def bits_Len32.f  (v0 : Int) : Option Int :=
  (if (decide (65536 ≤ v0)) = true then bits_Len32.j1 (FW.shrI .u32 v0 16) 16 else bits_Len32.j1 v0 0)

def bits_Len64.j3  (v0 : Int) (v2 : Int) : Option Int :=
  (if ((0 : Int) ≤ (IntKind.wrap .u8 v0) ∧ (IntKind.wrap .u8 v0) < (List.length ([0, 1, 2, 2, 3, 3, 3, 3, 4, 4, 4, 4, 4, 4, 4, 4, 5, 5, 5, 5, 5, 5, 5, 5, 5, 5, 5, 5, 5, 5, 5, 5, 6, 6, 6, 6, 6, 6, 6, 6, 6, 6, 6, 6, 6, 6, 6, 6, 6, 6, 6, 6, 6, 6, 6, 6, 6, 6, 6, 6, 6, 6, 6, 6, 7, 7, 7, 7, 7, 7, 7, 7, 7, 7, 7, 7, 7, 7, 7, 7, 7, 7, 7, 7, 7, 7, 7, 7, 7, 7, 7, 7, 7, 7, 7, 7, 7, 7, 7, 7, 7, 7, 7, 7, 7, 7, 7, 7, 7, 7, 7, 7, 7, 7, 7, 7, 7, 7, 7, 7, 7, 7, 7, 7, 7, 7, 7, 7, 8, 8, 8, 8, 8, 8, 8, 8, 8, 8, 8, 8, 8, 8, 8, 8, 8, 8, 8, 8, 8, 8, 8, 8, 8, 8, 8, 8, 8, 8, 8, 8, 8, 8, 8, 8, 8, 8, 8, 8, 8, 8, 8, 8, 8, 8, 8, 8, 8, 8, 8, 8, 8, 8, 8, 8, 8, 8, 8, 8, 8, 8, 8, 8, 8, 8, 8, 8, 8, 8, 8, 8, 8, 8, 8, 8, 8, 8, 8, 8, 8, 8, 8, 8, 8, 8, 8, 8, 8, 8, 8, 8, 8, 8, 8, 8, 8, 8, 8, 8, 8, 8, 8, 8, 8, 8, 8, 8, 8, 8, 8, 8, 8, 8, 8, 8, 8, 8, 8, 8, 8, 8, 8, 8, 8, 8, 8, 8] : List UInt8) : Int)) then some ((IntKind.wrap .i64 (v2 + (IntKind.wrap .i64 (FW.bt ([0, 1, 2, 2, 3, 3, 3, 3, 4, 4, 4, 4, 4, 4, 4, 4, 5, 5, 5, 5, 5, 5, 5, 5, 5, 5, 5, 5, 5, 5, 5, 5, 6, 6, 6, 6, 6, 6, 6, 6, 6, 6, 6, 6, 6, 6, 6, 6, 6, 6, 6, 6, 6, 6, 6, 6, 6, 6, 6, 6, 6, 6, 6, 6, 7, 7, 7, 7, 7, 7, 7, 7, 7, 7, 7, 7, 7, 7, 7, 7, 7, 7, 7, 7, 7, 7, 7, 7, 7, 7, 7, 7, 7, 7, 7, 7, 7, 7, 7, 7, 7, 7, 7, 7, 7, 7, 7, 7, 7, 7, 7, 7, 7, 7, 7, 7, 7, 7, 7, 7, 7, 7, 7, 7, 7, 7, 7, 7, 8, 8, 8, 8, 8, 8, 8, 8, 8, 8, 8, 8, 8, 8, 8, 8, 8, 8, 8, 8, 8, 8, 8, 8, 8, 8, 8, 8, 8, 8, 8, 8, 8, 8, 8, 8, 8, 8, 8, 8, 8, 8, 8, 8, 8, 8, 8, 8, 8, 8, 8, 8, 8, 8, 8, 8, 8, 8, 8, 8, 8, 8, 8, 8, 8, 8, 8, 8, 8, 8, 8, 8, 8, 8, 8, 8, 8, 8, 8, 8, 8, 8, 8, 8, 8, 8, 8, 8, 8, 8, 8, 8, 8, 8, 8, 8, 8, 8, 8, 8, 8, 8, 8, 8, 8, 8, 8, 8, 8, 8, 8, 8, 8, 8, 8, 8, 8, 8, 8, 8, 8, 8, 8, 8, 8, 8, 8, 8] : List UInt8) (IntKind.wrap .u8 v0)))))) else none)
def bits_Len64.j2  (v0 : Int) (v2 : Int) : Option Int :=
  (if (decide (256 ≤ v0)) = true then bits_Len64.j3 (FW.shrI .u64 v0 8) (IntKind.wrap .i64 (v2 + 8)) else bits_Len64.j3 v0 v2)
def bits_Len64.j1  (v0 : Int) (v2 : Int) : Option Int :=
  (if (decide (65536 ≤ v0)) = true then bits_Len64.j2 (FW.shrI .u64 v0 16) (IntKind.wrap .i64 (v2 + 16)) else bits_Len64.j2 v0 v2)
def bits_Len64.f  (v0 : Int) : Option Int :=
  (if (decide (4294967296 ≤ v0)) = true then bits_Len64.j1 (FW.shrI .u64 v0 32) 32 else bits_Len64.j1 v0 0)

def bits_Len.f  (v0 : Int) : Option Int :=
  (Option.bind (bits_Len64.f v0) fun t1 => some (t1))

def cmp_isNaN_uint64.f  (v0 : Int) : Option Bool :=
  some ((!decide (v0 = v0)))

def cmp_Less_uint64.f  (v0 : Int) (v1 : Int) : Option Bool :=
  (Option.bind (cmp_isNaN_uint64.f v0) fun t1 => (Option.bind (if t1 = true then cmp_isNaN_uint64.f v1 else some default) fun t2 => some (((t1 && (!t2)) || (decide (v0 < v1))))))

def slices_insertionSortOrdered_uint64.l2 (s_l1 : List Int → Int → Int → Int → Option ORow49) (K : Nat) : Nat → List Int → Int → Int → Int → Int → Option ORow49
  | 0, _, _, _, _, _ => none
  | kl2 + 1, l1, v1, v2, v6, v7 => (if (decide (v1 < v7)) = true → ((0 : Int) ≤ v7 ∧ v7 < (List.length l1 : Int)) then (if (decide (v1 < v7)) = true → ((0 : Int) ≤ (IntKind.wrap .i64 (v7 - 1)) ∧ (IntKind.wrap .i64 (v7 - 1)) < (List.length l1 : Int)) then (Option.bind (if (decide (v1 < v7)) = true then cmp_Less_uint64.f (List.getD l1 (Int.toNat v7) default) (List.getD l1 (Int.toNat (IntKind.wrap .i64 (v7 - 1))) default) else some default) fun t1 => (if ((decide (v1 < v7)) && t1) = true then (if ((0 : Int) ≤ (IntKind.wrap .i64 (v7 - 1)) ∧ (IntKind.wrap .i64 (v7 - 1)) < (List.length l1 : Int)) then (if ((0 : Int) ≤ v7 ∧ v7 < (List.length l1 : Int)) then (if ((0 : Int) ≤ v7 ∧ v7 < (List.length l1 : Int)) then (if ((0 : Int) ≤ (IntKind.wrap .i64 (v7 - 1)) ∧ (IntKind.wrap .i64 (v7 - 1)) < (List.length (List.set l1 (Int.toNat v7) (List.getD l1 (Int.toNat (IntKind.wrap .i64 (v7 - 1))) default)) : Int)) then slices_insertionSortOrdered_uint64.l2 s_l1 K kl2 (List.set (List.set l1 (Int.toNat v7) (List.getD l1 (Int.toNat (IntKind.wrap .i64 (v7 - 1))) default)) (Int.toNat (IntKind.wrap .i64 (v7 - 1))) (List.getD l1 (Int.toNat v7) default)) v1 v2 v6 (IntKind.wrap .i64 (v7 - 1)) else none) else none) else none) else none) else s_l1 l1 v1 v2 (IntKind.wrap .i64 (v6 + 1)))) else none) else none)
def slices_insertionSortOrdered_uint64.l1 (K : Nat) : Nat → List Int → Int → Int → Int → Option ORow49
  | 0, _, _, _, _ => none
  | kl1 + 1, l1, v1, v2, v6 => (if (decide (v6 < v2)) = true then slices_insertionSortOrdered_uint64.l2 (slices_insertionSortOrdered_uint64.l1 K kl1) K K l1 v1 v2 v6 v6 else some (l1))
def slices_insertionSortOrdered_uint64.f (K : Nat) (v0 : ORow49) (v1 : Int) (v2 : Int) : Option ORow49 :=
  slices_insertionSortOrdered_uint64.l1 K K v0 v1 v2 (IntKind.wrap .i64 (v1 + 1))

def slices_pdqsortOrdered_uint64.l1 (s_slices_pdqsortOrdered_uint64 : ORow49 → Int → Int → Int → Option ORow49) (K : Nat) (v0 : ORow49) : Nat → Int → Int → Int → Bool → Bool → Option ORow49
  | 0, _, _, _, _, _ => none
  | kl1 + 1, v1, v2, v3, v8, v9 => (if (decide ((IntKind.wrap .i64 (v2 - v1)) ≤ 12)) = true then (Option.bind (slices_insertionSortOrdered_uint64.f K v0 v1 v2) fun t1 => some (t1)) else (if (decide (v3 = 0)) = true then none else none))
def slices_pdqsortOrdered_uint64.b (s_slices_pdqsortOrdered_uint64 : ORow49 → Int → Int → Int → Option ORow49) (K : Nat) (v0 : ORow49) (v1 : Int) (v2 : Int) (v3 : Int) : Option ORow49 :=
  slices_pdqsortOrdered_uint64.l1 s_slices_pdqsortOrdered_uint64 K v0 K v1 v2 v3 true true
def slices_pdqsortOrdered_uint64.f : Nat → ORow49 → Int → Int → Int → Option ORow49
  | 0, _, _, _, _ => none
  | K + 1, v0, v1, v2, v3 => slices_pdqsortOrdered_uint64.b (slices_pdqsortOrdered_uint64.f K) K v0 v1 v2 v3

def slices_Sort_uint64_uint64.f (K : Nat) (v0 : ORow49) : Option ORow49 :=
  (Option.bind (bits_Len.f (IntKind.wrap .u64 (List.length v0 : Int))) fun t1 => (Option.bind (slices_pdqsortOrdered_uint64.f K v0 0 (List.length v0 : Int) t1) fun t2 => some (t2)))
end Go.Proofs.Ytaoffkhflmndhaa

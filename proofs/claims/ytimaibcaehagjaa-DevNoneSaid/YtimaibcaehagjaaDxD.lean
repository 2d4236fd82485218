/- Written by a program of this session (gen.py): functions of the program as plain Lean functions. -/
import Derived.Test.YtimaibcaehagjaaAvMoreD
import Derived.Test.YtimaibcaehagjaaHk
namespace Go.Proofs.Ytimaibcaehagjaa
set_option linter.unusedVariables false
set_option maxRecDepth 20000
set_option maxHeartbeats 10000000
def c_bool (x : Bool) : List FW.AV := [.lit (.bool x)]
def c_f64 (x : Nat) : List FW.AV := [.lit (.float .f64 x)]
def c_str (x : List UInt8) : List FW.AV := [.lit (.string (FW.B x))]
def c_i8 (x : Int) : List FW.AV := [.lit (.int .i8 x)]
def c_i16 (x : Int) : List FW.AV := [.lit (.int .i16 x)]
def c_i32 (x : Int) : List FW.AV := [.lit (.int .i32 x)]
def c_i64 (x : Int) : List FW.AV := [.lit (.int .i64 x)]
def c_u8 (x : Int) : List FW.AV := [.lit (.int .u8 x)]
def c_u16 (x : Int) : List FW.AV := [.lit (.int .u16 x)]
def c_u32 (x : Int) : List FW.AV := [.lit (.int .u32 x)]
def c_u64 (x : Int) : List FW.AV := [.lit (.int .u64 x)]
structure ApiFall where
  At : Int
  Keep : Int
  Torn : Int
  deriving Inhabited
def ApiFall.cells (x : ApiFall) : List FW.AV := [.lit (.int .i64 x.At), .lit (.int .u64 x.Keep), .lit (.int .i64 x.Torn)]
def r_c_i64 (l : List Int) : List (List FW.AV) := l.map c_i64
theorem r_c_i64_eq : ∀ l, r_c_i64 l = l.map c_i64 := fun _ => rfl
def r_c_str (l : List (List UInt8)) : List (List FW.AV) := l.map c_str
theorem r_c_str_eq : ∀ l, r_c_str l = l.map c_str := fun _ => rfl
def r_ApiFall_cells (l : List ApiFall) : List (List FW.AV) := l.map ApiFall.cells
theorem r_ApiFall_cells_eq : ∀ l, r_ApiFall_cells l = l.map ApiFall.cells := fun _ => rfl
structure ODevDev where
  sure : List (List UInt8)
  cache : List (Int × (List UInt8))
  steps : Int
  falls : List ApiFall
  off : Bool
  deriving Inhabited
abbrev ODevDev.items (b : Nat) (xd_0 : Option Addr) (xc_0 : Nat) (xr_1 : Nat) (xd_3 : Option Addr) (xc_3 : Nat) (x : ODevDev) : List FW.It := [FW.blk b 109 [.lit (.slice xd_0 (List.length x.sure) xc_0), .lit (.map (some xr_1)), .lit (.int .i64 x.steps), .lit (.slice xd_3 (List.length x.falls) xc_3), .lit (.bool x.off)], FW.orow xd_0 xc_0 9 1 c_str x.sure, FW.mapI (.int .i64) (Value.int .i64) FW.evS xr_1 x.cache, FW.orow xd_3 xc_3 45 3 ApiFall.cells x.falls]
structure OVarPDevDev where

  deriving Inhabited
abbrev OVarPDevDev.items (b : Nat) (p0 : Nat) (x : OVarPDevDev) : List FW.It := [FW.blk b 46 [.lit (.pointer (some ⟨p0, 0, none⟩))]]
def dev_Dev_Off.f  (v0 : ODevDev) : Option Bool :=
  some (v0.off)

def dev_Dev_Len.f  (v0 : ODevDev) : Option Int :=
  some ((List.length v0.sure : Int))

def dev_Dev_Steps.f  (v0 : ODevDev) : Option Int :=
  some (v0.steps)

def dev_Dev_Up.f  (v0 : ODevDev) : Option (Bool × ODevDev) :=
  (if (!v0.off) = true then some (false, v0) else some (true, (⟨v0.sure, v0.cache, v0.steps, v0.falls, false⟩ : ODevDev)))

def dev_Dev_Loose.f  (v0 : ODevDev) : Option Int :=
  some ((List.length v0.cache : Int))

def dev_Dev_Read.f  (v0 : ODevDev) (v1 : Int) : Option (List UInt8 × Int) :=
  (Option.bind (dev_Dev_Off.f v0) fun t1 => (if t1 = true then some (([] : List UInt8), 7) else (if ((decide (v1 < 0)) || (decide ((List.length v0.sure : Int) ≤ v1))) = true then some (([] : List UInt8), 1) else (if ((FW.mget v0.cache v1).isSome) = true then some (((FW.mget v0.cache v1).getD ([] : List UInt8)), 0) else (if ((0 : Int) ≤ v1 ∧ v1 < (List.length v0.sure : Int)) then some ((List.getD v0.sure (Int.toNat v1) default), 0) else none)))))

def dev_Dev_step_1.f  (v0 : ApiFall) (v1 : OVarPDevDev) (v1_0 : ODevDev) : Option Bool :=
  some ((decide (v0.At = v1_0.steps)))

def slices_IndexFunc_api_Fall_api_Fall_of_dev_Dev_step_1.l1 (K : Nat) (v1c0_0 : ODevDev) : Nat → Int → Int → Option Int
  | 0, _, _ => none
  | kl1 + 1, v7, v8 => (if (decide (v8 < v7)) = true then (if ((0 : Int) ≤ v8 ∧ v8 < (List.length v1c0_0.falls : Int)) then (Option.bind (dev_Dev_step_1.f (List.getD v1c0_0.falls (Int.toNat v8) default) (⟨⟩ : OVarPDevDev) v1c0_0) fun t1 => (if t1 = true then some (v8) else slices_IndexFunc_api_Fall_api_Fall_of_dev_Dev_step_1.l1 K v1c0_0 kl1 v7 (IntKind.wrap .i64 (v8 + 1)))) else none) else some ((-1)))
def slices_IndexFunc_api_Fall_api_Fall_of_dev_Dev_step_1.f (K : Nat) (v1c0 : OVarPDevDev) (v1c0_0 : ODevDev) : Option Int :=
  slices_IndexFunc_api_Fall_api_Fall_of_dev_Dev_step_1.l1 K v1c0_0 K (List.length v1c0_0.falls : Int) 0

def dev_Dev_Crash.j1 (s_l1 : Int → Bool → List (List UInt8) → Int → Int → List Int → Int → Int → Option ODevDev) (K : Nat) (l2 : List (List UInt8)) (v0 : ODevDev) (y1_2 : Int) (y1_4 : Bool) (v1 : Int) (v2 : Int) (v7 : Int) (v8 : List UInt8) (v17 : List Int) (v18 : Int) (v19 : Int) : Option ODevDev :=
  (if ((0 : Int) ≤ v7 ∧ v7 < (List.length l2 : Int)) then s_l1 y1_2 y1_4 (List.set l2 (Int.toNat v7) v8) v1 v2 v17 v18 (IntKind.wrap .i64 (v19 + 1)) else none)
def dev_Dev_Crash.l1 (K : Nat) (v0 : ODevDev) : Nat → Int → Bool → List (List UInt8) → Int → Int → List Int → Int → Int → Option ODevDev
  | 0, _, _, _, _, _, _, _, _ => none
  | kl1 + 1, y1_2, y1_4, l2, v1, v2, v17, v18, v19 => (if (decide (v19 < v18)) = true then (if ((0 : Int) ≤ v19 ∧ v19 < (List.length v17 : Int)) then (if (0 : Int) ≤ (if 63 < v19 then 63 else v19) then (if (decide ((FW.andI .u64 (FW.shrI .u64 v1 (if 63 < v19 then 63 else v19)) 1) = 0)) = true then (if ((0 : Int) ≤ (if (List.length ((FW.mget v0.cache (List.getD v17 (Int.toNat v19) default)).getD ([] : List UInt8)) : Int) < (if v2 < 0 then 0 else v2) then (List.length ((FW.mget v0.cache (List.getD v17 (Int.toNat v19) default)).getD ([] : List UInt8)) : Int) else (if v2 < 0 then 0 else v2)) ∧ (if (List.length ((FW.mget v0.cache (List.getD v17 (Int.toNat v19) default)).getD ([] : List UInt8)) : Int) < (if v2 < 0 then 0 else v2) then (List.length ((FW.mget v0.cache (List.getD v17 (Int.toNat v19) default)).getD ([] : List UInt8)) : Int) else (if v2 < 0 then 0 else v2)) ≤ (List.length ((FW.mget v0.cache (List.getD v17 (Int.toNat v19) default)).getD ([] : List UInt8)) : Int)) then (if ((0 : Int) ≤ (List.getD v17 (Int.toNat v19) default) ∧ (List.getD v17 (Int.toNat v19) default) < (List.length l2 : Int)) then (if ((0 : Int) ≤ (if (List.length ((FW.mget v0.cache (List.getD v17 (Int.toNat v19) default)).getD ([] : List UInt8)) : Int) < (if v2 < 0 then 0 else v2) then (List.length ((FW.mget v0.cache (List.getD v17 (Int.toNat v19) default)).getD ([] : List UInt8)) : Int) else (if v2 < 0 then 0 else v2)) ∧ (if (List.length ((FW.mget v0.cache (List.getD v17 (Int.toNat v19) default)).getD ([] : List UInt8)) : Int) < (if v2 < 0 then 0 else v2) then (List.length ((FW.mget v0.cache (List.getD v17 (Int.toNat v19) default)).getD ([] : List UInt8)) : Int) else (if v2 < 0 then 0 else v2)) ≤ (List.length (List.getD l2 (Int.toNat (List.getD v17 (Int.toNat v19) default)) default) : Int)) then (if (List.length (List.take (Int.toNat (if (List.length ((FW.mget v0.cache (List.getD v17 (Int.toNat v19) default)).getD ([] : List UInt8)) : Int) < (if v2 < 0 then 0 else v2) then (List.length ((FW.mget v0.cache (List.getD v17 (Int.toNat v19) default)).getD ([] : List UInt8)) : Int) else (if v2 < 0 then 0 else v2))) ((FW.mget v0.cache (List.getD v17 (Int.toNat v19) default)).getD ([] : List UInt8))) : Int) + List.length (List.drop (Int.toNat (if (List.length ((FW.mget v0.cache (List.getD v17 (Int.toNat v19) default)).getD ([] : List UInt8)) : Int) < (if v2 < 0 then 0 else v2) then (List.length ((FW.mget v0.cache (List.getD v17 (Int.toNat v19) default)).getD ([] : List UInt8)) : Int) else (if v2 < 0 then 0 else v2))) (List.getD l2 (Int.toNat (List.getD v17 (Int.toNat v19) default)) default)) ≤ 9223372036854775807 then dev_Dev_Crash.j1 (dev_Dev_Crash.l1 K v0 kl1) K l2 v0 y1_2 y1_4 v1 0 (List.getD v17 (Int.toNat v19) default) ((List.take (Int.toNat (if (List.length ((FW.mget v0.cache (List.getD v17 (Int.toNat v19) default)).getD ([] : List UInt8)) : Int) < (if v2 < 0 then 0 else v2) then (List.length ((FW.mget v0.cache (List.getD v17 (Int.toNat v19) default)).getD ([] : List UInt8)) : Int) else (if v2 < 0 then 0 else v2))) ((FW.mget v0.cache (List.getD v17 (Int.toNat v19) default)).getD ([] : List UInt8))) ++ (List.drop (Int.toNat (if (List.length ((FW.mget v0.cache (List.getD v17 (Int.toNat v19) default)).getD ([] : List UInt8)) : Int) < (if v2 < 0 then 0 else v2) then (List.length ((FW.mget v0.cache (List.getD v17 (Int.toNat v19) default)).getD ([] : List UInt8)) : Int) else (if v2 < 0 then 0 else v2))) (List.getD l2 (Int.toNat (List.getD v17 (Int.toNat v19) default)) default))) v17 v18 v19 else none) else none) else none) else none) else dev_Dev_Crash.j1 (dev_Dev_Crash.l1 K v0 kl1) K l2 v0 y1_2 y1_4 v1 v2 (List.getD v17 (Int.toNat v19) default) ((FW.mget v0.cache (List.getD v17 (Int.toNat v19) default)).getD ([] : List UInt8)) v17 v18 v19) else none) else none) else some ((⟨l2, ([] : List (Int × (List UInt8))), y1_2, v0.falls, true⟩ : ODevDev)))
def dev_Dev_Crash.f (K : Nat) (v0 : ODevDev) (v1 : Int) (v2 : Int) : Option ODevDev :=
  (Option.bind (dev_Dev_Off.f v0) fun t1 => (if t1 = true then some (v0) else (if (FW.keysOk v0.cache = true) then dev_Dev_Crash.l1 K v0 K v0.steps v0.off v0.sure v1 v2 (FW.sortK v0.cache) (List.length (FW.sortK v0.cache) : Int) 0 else none)))

def dev_Dev_step.f (K : Nat) (v0 : ODevDev) : Option (Int × ODevDev) :=
  (Option.bind (slices_IndexFunc_api_Fall_api_Fall_of_dev_Dev_step_1.f K (⟨⟩ : OVarPDevDev) v0) fun t1 => (if (decide (t1 < 0)) = true then some (0, (⟨v0.sure, v0.cache, (IntKind.wrap .i64 (v0.steps + 1)), v0.falls, v0.off⟩ : ODevDev)) else (if ((0 : Int) ≤ t1 ∧ t1 < (List.length v0.falls : Int)) then (if (List.length v0.falls = 1 ∧ t1 = 0 ∧ (IntKind.wrap .i64 (t1 + 1)) = 1) then (Option.bind (dev_Dev_Crash.f K (⟨v0.sure, v0.cache, v0.steps, ([] : List ApiFall), v0.off⟩ : ODevDev) ((List.getD v0.falls (Int.toNat t1) default).Keep) ((List.getD v0.falls (Int.toNat t1) default).Torn)) fun t2 => some (7, t2)) else none) else none)))

def dev_Dev_Write.f (K : Nat) (v0 : ODevDev) (v1 : Int) (v2 : List UInt8) : Option (Int × ODevDev) :=
  (Option.bind (dev_Dev_Off.f v0) fun t1 => (if t1 = true then some (7, v0) else (if (((decide (v1 < 0)) || (decide ((List.length v0.sure : Int) ≤ v1))) || (!decide ((List.length v2 : Int) = 128))) = true then some (1, v0) else (Option.bind (dev_Dev_step.f K v0) fun t2 => (if (!decide (t2.1 = 0)) = true then some (t2.1, t2.2) else some (0, (⟨t2.2.sure, (FW.mput t2.2.cache v1 v2), t2.2.steps, t2.2.falls, t2.2.off⟩ : ODevDev)))))))

def dev_Dev_Plan.f  (v0 : ODevDev) (v1 : List ApiFall) : Option ODevDev :=
  (if ((0 + List.length v1) * 24 ≤ 140737488355328 ∧ 0 + List.length v1 ≤ 140737488355328) then some ((⟨v0.sure, v0.cache, v0.steps, v1, v0.off⟩ : ODevDev)) else none)

def dev_New.l1 (K : Nat) : Nat → Int → Bool → List (List UInt8) → Int → Int → Option (ODevDev × Int)
  | 0, _, _, _, _, _ => none
  | kl1 + 1, y4_2, y4_4, l1, v21, v22 => (if (decide (v22 < v21)) = true then (Option.bind (strings_Repeat.f ([0] : List UInt8) 128) fun t1 => (if ((0 : Int) ≤ v22 ∧ v22 < (List.length l1 : Int)) then dev_New.l1 K kl1 y4_2 y4_4 (List.set l1 (Int.toNat v22) t1) v21 (IntKind.wrap .i64 (v22 + 1)) else none)) else some ((⟨l1, ([] : List (Int × (List UInt8))), y4_2, ([] : List ApiFall), y4_4⟩ : ODevDev), 0))
def dev_New.f (K : Nat) (v0 : Int) : Option (ODevDev × Int) :=
  (if ((decide (v0 < 0)) || (decide (65536 < v0))) = true then none else (if ((0 : Int) ≤ v0 ∧ (v0 : Int) ≤ 1000000000000) then dev_New.l1 K K 0 false (List.replicate (Int.toNat v0) ([] : List UInt8)) (List.length (List.replicate (Int.toNat v0) ([] : List UInt8)) : Int) 0 else none))
end Go.Proofs.Ytimaibcaehagjaa

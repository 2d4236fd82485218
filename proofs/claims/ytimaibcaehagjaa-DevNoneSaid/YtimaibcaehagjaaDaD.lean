/- Written by a program of this session (gen.py): functions of the program as plain Lean functions. -/
import Derived.Test.YtimaibcaehagjaaAvMoreD
import Derived.Test.YtimaibcaehagjaaHk
import Derived.Test.YtimaibcaehagjaaDxD
import Derived.Test.YtimaibcaehagjaaFy
namespace Go.Proofs.Ytimaibcaehagjaa
set_option linter.unusedVariables false
set_option maxRecDepth 20000
set_option maxHeartbeats 10000000
structure Offshootref03Loose where
  At : Int
  S : List UInt8
  deriving Inhabited
def Offshootref03Loose.cells (x : Offshootref03Loose) : List FW.AV := [.lit (.int .i64 x.At), .lit (.string (FW.B x.S))]
def r_Offshootref03Loose_cells (l : List Offshootref03Loose) : List (List FW.AV) := l.map Offshootref03Loose.cells
theorem r_Offshootref03Loose_cells_eq : ∀ l, r_Offshootref03Loose_cells l = l.map Offshootref03Loose.cells := fun _ => rfl
structure Offshootref03Dev where
  Sure : List (List UInt8)
  Loose : List Offshootref03Loose
  Steps : Int
  Falls : List ApiFall
  Off : Bool
  deriving Inhabited
def Offshootref03Dev.cells (x : Offshootref03Dev) : List FW.AV := [.row (r_c_str x.Sure), .row (r_Offshootref03Loose_cells x.Loose), .lit (.int .i64 x.Steps), .row (r_ApiFall_cells x.Falls), .lit (.bool x.Off)]
structure Offshootlaw03Both where
  m : Offshootref03Dev
  deriving Inhabited
structure Offshootlaw03Act where
  Kind : Int
  At : Int
  C : Int
  Odd : Bool
  Fall : ApiFall
  deriving Inhabited
def Offshootlaw03Act.cells (x : Offshootlaw03Act) : List FW.AV := [.lit (.int .i64 x.Kind)] ++ [.lit (.int .i64 x.At)] ++ [.lit (.int .u8 x.C)] ++ [.lit (.bool x.Odd)] ++ ApiFall.cells x.Fall
def r_c_u8 (l : List Int) : List (List FW.AV) := l.map c_u8
theorem r_c_u8_eq : ∀ l, r_c_u8 l = l.map c_u8 := fun _ => rfl
def r_Offshootlaw03Act_cells (l : List Offshootlaw03Act) : List (List FW.AV) := l.map Offshootlaw03Act.cells
theorem r_Offshootlaw03Act_cells_eq : ∀ l, r_Offshootlaw03Act_cells l = l.map Offshootlaw03Act.cells := fun _ => rfl
def offshootref03_New.l1 (K : Nat) : Nat → List (List UInt8) → List Offshootref03Loose → Int → List ApiFall → Bool → Int → Int → Option Offshootref03Dev
  | 0, _, _, _, _, _, _, _ => none
  | kl1 + 1, l3, y2_1, y2_2, y2_3, y2_4, v0, v4 => (if (decide (v4 < v0)) = true then (if ((0 : Int) ≤ 128 ∧ (128 : Int) ≤ 1000000000000) then (if ((List.length l3 + List.length ([(FW.toB (List.replicate (Int.toNat 128) (0 : Int)))] : List (List UInt8))) * 16 ≤ 140737488355328 ∧ List.length l3 + List.length ([(FW.toB (List.replicate (Int.toNat 128) (0 : Int)))] : List (List UInt8)) ≤ 140737488355328) then offshootref03_New.l1 K kl1 (l3 ++ ([(FW.toB (List.replicate (Int.toNat 128) (0 : Int)))] : List (List UInt8))) y2_1 y2_2 y2_3 y2_4 v0 (IntKind.wrap .i64 (v4 + 1)) else none) else none) else some ((⟨l3, y2_1, y2_2, y2_3, y2_4⟩ : Offshootref03Dev)))
def offshootref03_New.f (K : Nat) (v0 : Int) : Option Offshootref03Dev :=
  offshootref03_New.l1 K K ([] : List (List UInt8)) [] 0 [] false v0 0

def offshootlaw03_sector.l1 (K : Nat) : Nat → List Int → Int → Int → Option (List UInt8)
  | 0, _, _, _ => none
  | kl1 + 1, l1, v0, v4 => (if (decide (v4 < (List.length l1 : Int))) = true then (if ((0 : Int) ≤ v4 ∧ v4 < (List.length l1 : Int)) then offshootlaw03_sector.l1 K kl1 (List.set l1 (Int.toNat v4) v0) v0 (IntKind.wrap .i64 (v4 + 1)) else none) else some ((FW.toB l1)))
def offshootlaw03_sector.f (K : Nat) (v0 : Int) : Option (List UInt8) :=
  (if ((0 : Int) ≤ 128 ∧ (128 : Int) ≤ 1000000000000) then offshootlaw03_sector.l1 K K (List.replicate (Int.toNat 128) (0 : Int)) v0 0 else none)

def offshootlaw03_awake.f (K : Nat)  : Option Bool :=
  (Option.bind (dev_New.f K 2) fun t1 => (Option.bind (offshootlaw03_sector.f K 97) fun t2 => (Option.bind (dev_Dev_Write.f K t1.1 0 t2) fun t3 => (Option.bind (dev_Dev_Flush.f K t3.2) fun t4 => (Option.bind (offshootlaw03_sector.f K 98) fun t5 => (Option.bind (dev_Dev_Write.f K t4.2 1 t5) fun t6 => (Option.bind (dev_Dev_Crash.f K t6.2 0 0) fun t7 => (Option.bind (dev_Dev_Up.f t7) fun t8 => (Option.bind (dev_Dev_Read.f t8.2 0) fun t9 => (Option.bind (dev_Dev_Read.f t8.2 1) fun t10 => (Option.bind (if ((((((decide (t1.2 = 0)) && (decide (t3.1 = 0))) && (decide (t4.1 = 0))) && (decide (t6.1 = 0))) && t8.1) && (decide (t9.2 = 0))) = true then offshootlaw03_sector.f K 97 else some default) fun t11 => (Option.bind (if ((((((((decide (t1.2 = 0)) && (decide (t3.1 = 0))) && (decide (t4.1 = 0))) && (decide (t6.1 = 0))) && t8.1) && (decide (t9.2 = 0))) && (decide (t9.1 = t11))) && (decide (t10.2 = 0))) = true then offshootlaw03_sector.f K 0 else some default) fun t12 => some ((((((((((decide (t1.2 = 0)) && (decide (t3.1 = 0))) && (decide (t4.1 = 0))) && (decide (t6.1 = 0))) && t8.1) && (decide (t9.2 = 0))) && (decide (t9.1 = t11))) && (decide (t10.2 = 0))) && (decide (t10.1 = t12))))))))))))))))

def offshootref03_laid.f  (v0 : List (List UInt8)) (v1 : Int) (v2 : List UInt8) : Option (List (List UInt8)) :=
  (if ((List.length ([] : List (List UInt8)) + List.length v0) * 16 ≤ 140737488355328 ∧ List.length ([] : List (List UInt8)) + List.length v0 ≤ 140737488355328) then (if ((0 : Int) ≤ v1 ∧ v1 < (List.length (([] : List (List UInt8)) ++ v0) : Int)) then some ((List.set (([] : List (List UInt8)) ++ v0) (Int.toNat v1) v2)) else none) else none)

def offshootref03_Dev_Crash.j4 (s_l1 : Offshootref03Dev → Int → Int → Int → Option Offshootref03Dev) (K : Nat) (y1 : Offshootref03Dev) (v1 : Int) (v7 : Int) (v8 : Int) (v10 : Int) (v11 : List UInt8) : Option Offshootref03Dev :=
  (Option.bind (offshootref03_laid.f y1.Sure v10 v11) fun t1 => s_l1 (⟨t1, y1.Loose, y1.Steps, y1.Falls, y1.Off⟩ : Offshootref03Dev) v1 v7 (IntKind.wrap .i64 (v8 + 1)))
def offshootref03_Dev_Crash.j3 (s_l1 : Offshootref03Dev → Int → Int → Int → Option Offshootref03Dev) (K : Nat) (y1 : Offshootref03Dev) (v1 : Int) (v7 : Int) (v8 : Int) (v9 : Int) : Option Offshootref03Dev :=
  (if ((0 : Int) ≤ v8 ∧ v8 < (List.length y1.Loose : Int)) then (if ((0 : Int) ≤ v8 ∧ v8 < (List.length y1.Loose : Int)) then (if (0 : Int) ≤ (IntKind.wrap .u64 v9) then (if (decide ((Int.tmod (FW.shrI .u64 v1 (IntKind.wrap .u64 v9)) 2) = 0)) = true then (if ((0 : Int) ≤ v7 ∧ v7 ≤ (List.length ((List.getD y1.Loose (Int.toNat v8) default).S) : Int)) then (if ((0 : Int) ≤ ((List.getD y1.Loose (Int.toNat v8) default).At) ∧ ((List.getD y1.Loose (Int.toNat v8) default).At) < (List.length y1.Sure : Int)) then (if ((0 : Int) ≤ v7 ∧ v7 ≤ (List.length (List.getD y1.Sure (Int.toNat ((List.getD y1.Loose (Int.toNat v8) default).At)) default) : Int)) then (if (List.length (List.take (Int.toNat v7) ((List.getD y1.Loose (Int.toNat v8) default).S)) : Int) + List.length (List.drop (Int.toNat v7) (List.getD y1.Sure (Int.toNat ((List.getD y1.Loose (Int.toNat v8) default).At)) default)) ≤ 9223372036854775807 then offshootref03_Dev_Crash.j4 s_l1 K y1 v1 0 v8 ((List.getD y1.Loose (Int.toNat v8) default).At) ((List.take (Int.toNat v7) ((List.getD y1.Loose (Int.toNat v8) default).S)) ++ (List.drop (Int.toNat v7) (List.getD y1.Sure (Int.toNat ((List.getD y1.Loose (Int.toNat v8) default).At)) default))) else none) else none) else none) else none) else offshootref03_Dev_Crash.j4 s_l1 K y1 v1 v7 v8 ((List.getD y1.Loose (Int.toNat v8) default).At) ((List.getD y1.Loose (Int.toNat v8) default).S)) else none) else none) else none)
def offshootref03_Dev_Crash.l1 (K : Nat) : Nat → Offshootref03Dev → Int → Int → Int → Option Offshootref03Dev
  | 0, _, _, _, _ => none
  | kl1 + 1, y1, v1, v7, v8 => (if (decide (v8 < (List.length y1.Loose : Int))) = true then (if (decide (63 < v8)) = true then offshootref03_Dev_Crash.j3 (offshootref03_Dev_Crash.l1 K kl1) K y1 v1 v7 v8 63 else offshootref03_Dev_Crash.j3 (offshootref03_Dev_Crash.l1 K kl1) K y1 v1 v7 v8 v8) else some ((⟨y1.Sure, [], y1.Steps, y1.Falls, true⟩ : Offshootref03Dev)))
def offshootref03_Dev_Crash.j2 (K : Nat) (y1 : Offshootref03Dev) (v1 : Int) (v7 : Int) : Option Offshootref03Dev :=
  offshootref03_Dev_Crash.l1 K K y1 v1 v7 0
def offshootref03_Dev_Crash.j1 (K : Nat) (y1 : Offshootref03Dev) (v1 : Int) (v7 : Int) : Option Offshootref03Dev :=
  (if (decide (128 < v7)) = true then offshootref03_Dev_Crash.j2 K y1 v1 128 else offshootref03_Dev_Crash.j2 K y1 v1 v7)
def offshootref03_Dev_Crash.f (K : Nat) (v0 : Offshootref03Dev) (v1 : Int) (v2 : Int) : Option Offshootref03Dev :=
  (if v0.Off = true then some (v0) else (if (decide (v2 < 0)) = true then offshootref03_Dev_Crash.j1 K v0 v1 0 else offshootref03_Dev_Crash.j1 K v0 v1 v2))

def offshootref03_Dev_step.l1 (K : Nat) : Nat → Offshootref03Dev → Int → Option (Offshootref03Dev × Int)
  | 0, _, _ => none
  | kl1 + 1, y1, v4 => (if (decide (v4 < (List.length y1.Falls : Int))) = true then (if ((0 : Int) ≤ v4 ∧ v4 < (List.length y1.Falls : Int)) then (if (decide (((List.getD y1.Falls (Int.toNat v4) default).At) = y1.Steps)) = true then (if ((0 : Int) ≤ 0 ∧ (0 : Int) ≤ v4 ∧ v4 ≤ (List.length y1.Falls : Int)) then (if ((List.length ([] : List ApiFall) + List.length (List.take (Int.toNat v4 - Int.toNat 0) (List.drop (Int.toNat 0) y1.Falls))) * 24 ≤ 140737488355328 ∧ List.length ([] : List ApiFall) + List.length (List.take (Int.toNat v4 - Int.toNat 0) (List.drop (Int.toNat 0) y1.Falls)) ≤ 140737488355328) then (if ((0 : Int) ≤ (IntKind.wrap .i64 (v4 + 1)) ∧ ((IntKind.wrap .i64 (v4 + 1)) : Int) ≤ (List.length y1.Falls : Int) ∧ (List.length y1.Falls : Int) ≤ (List.length y1.Falls : Int)) then (if ((List.length (([] : List ApiFall) ++ (List.take (Int.toNat v4 - Int.toNat 0) (List.drop (Int.toNat 0) y1.Falls))) + List.length (List.take (Int.toNat (List.length y1.Falls : Int) - Int.toNat (IntKind.wrap .i64 (v4 + 1))) (List.drop (Int.toNat (IntKind.wrap .i64 (v4 + 1))) y1.Falls))) * 24 ≤ 140737488355328 ∧ List.length (([] : List ApiFall) ++ (List.take (Int.toNat v4 - Int.toNat 0) (List.drop (Int.toNat 0) y1.Falls))) + List.length (List.take (Int.toNat (List.length y1.Falls : Int) - Int.toNat (IntKind.wrap .i64 (v4 + 1))) (List.drop (Int.toNat (IntKind.wrap .i64 (v4 + 1))) y1.Falls)) ≤ 140737488355328) then (Option.bind (offshootref03_Dev_Crash.f K (⟨y1.Sure, y1.Loose, y1.Steps, ((([] : List ApiFall) ++ (List.take (Int.toNat v4 - Int.toNat 0) (List.drop (Int.toNat 0) y1.Falls))) ++ (List.take (Int.toNat (List.length y1.Falls : Int) - Int.toNat (IntKind.wrap .i64 (v4 + 1))) (List.drop (Int.toNat (IntKind.wrap .i64 (v4 + 1))) y1.Falls))), y1.Off⟩ : Offshootref03Dev) ((List.getD y1.Falls (Int.toNat v4) default).Keep) ((List.getD y1.Falls (Int.toNat v4) default).Torn)) fun t1 => some (t1, 7)) else none) else none) else none) else none) else offshootref03_Dev_step.l1 K kl1 y1 (IntKind.wrap .i64 (v4 + 1))) else none) else some ((⟨y1.Sure, y1.Loose, (IntKind.wrap .i64 (y1.Steps + 1)), y1.Falls, y1.Off⟩ : Offshootref03Dev), 0))
def offshootref03_Dev_step.f (K : Nat) (v0 : Offshootref03Dev) : Option (Offshootref03Dev × Int) :=
  offshootref03_Dev_step.l1 K K v0 0

def offshootref03_Dev_Flush.l1 (K : Nat) : Nat → Offshootref03Dev → Int → Option (Offshootref03Dev × Int)
  | 0, _, _ => none
  | kl1 + 1, y1, v5 => (if (decide (v5 < (List.length y1.Loose : Int))) = true then (if ((0 : Int) ≤ v5 ∧ v5 < (List.length y1.Loose : Int)) then (if ((0 : Int) ≤ v5 ∧ v5 < (List.length y1.Loose : Int)) then (Option.bind (offshootref03_laid.f y1.Sure ((List.getD y1.Loose (Int.toNat v5) default).At) ((List.getD y1.Loose (Int.toNat v5) default).S)) fun t2 => offshootref03_Dev_Flush.l1 K kl1 (⟨t2, y1.Loose, y1.Steps, y1.Falls, y1.Off⟩ : Offshootref03Dev) (IntKind.wrap .i64 (v5 + 1))) else none) else none) else some ((⟨y1.Sure, [], y1.Steps, y1.Falls, y1.Off⟩ : Offshootref03Dev), 0))
def offshootref03_Dev_Flush.f (K : Nat) (v0 : Offshootref03Dev) : Option (Offshootref03Dev × Int) :=
  (if v0.Off = true then some (v0, 7) else (Option.bind (offshootref03_Dev_step.f K v0) fun t1 => (if (!decide (t1.2 = 0)) = true then some (t1.1, t1.2) else offshootref03_Dev_Flush.l1 K K t1.1 0)))

def offshootref03_Dev_Write.j1 (s_l1 : List Offshootref03Loose → Offshootref03Dev → Int → List UInt8 → Bool → Int → Option (Offshootref03Dev × Int)) (K : Nat) (y1 : Offshootref03Dev) (l3 : List Offshootref03Loose) (v1 : Int) (v2 : List UInt8) (v10 : Bool) (v11 : Int) : Option (Offshootref03Dev × Int) :=
  s_l1 l3 y1 v1 v2 v10 (IntKind.wrap .i64 (v11 + 1))
def offshootref03_Dev_Write.j2 (s_l1 : List Offshootref03Loose → Offshootref03Dev → Int → List UInt8 → Bool → Int → Option (Offshootref03Dev × Int)) (K : Nat) (v11 : Int) (y1 : Offshootref03Dev) (l3 : List Offshootref03Loose) (v1 : Int) (v2 : List UInt8) (v10 : Bool) (v11 : Int) : Option (Offshootref03Dev × Int) :=
  (if (!decide (((List.getD y1.Loose (Int.toNat v11) default).At) = v1)) = true then (if ((List.length l3 + List.length ([(List.getD y1.Loose (Int.toNat v11) default)] : List Offshootref03Loose)) * 24 ≤ 140737488355328 ∧ List.length l3 + List.length ([(List.getD y1.Loose (Int.toNat v11) default)] : List Offshootref03Loose) ≤ 140737488355328) then offshootref03_Dev_Write.j1 s_l1 K y1 (l3 ++ ([(List.getD y1.Loose (Int.toNat v11) default)] : List Offshootref03Loose)) v1 v2 v10 v11 else none) else offshootref03_Dev_Write.j1 s_l1 K y1 l3 v1 v2 v10 v11)
def offshootref03_Dev_Write.j3 (s_l1 : List Offshootref03Loose → Offshootref03Dev → Int → List UInt8 → Bool → Int → Option (Offshootref03Dev × Int)) (K : Nat) (y1 : Offshootref03Dev) (l3 : List Offshootref03Loose) : Option (Offshootref03Dev × Int) :=
  some ((⟨y1.Sure, l3, y1.Steps, y1.Falls, y1.Off⟩ : Offshootref03Dev), 0)
def offshootref03_Dev_Write.l1 (K : Nat) : Nat → List Offshootref03Loose → Offshootref03Dev → Int → List UInt8 → Bool → Int → Option (Offshootref03Dev × Int)
  | 0, _, _, _, _, _, _ => none
  | kl1 + 1, l3, y1, v1, v2, v10, v11 => (if (decide (v11 < (List.length y1.Loose : Int))) = true then (if ((0 : Int) ≤ v11 ∧ v11 < (List.length y1.Loose : Int)) then (if ((!v10) && (decide (v1 ≤ ((List.getD y1.Loose (Int.toNat v11) default).At)))) = true then (if ((List.length l3 + List.length ([(⟨v1, v2⟩ : Offshootref03Loose)] : List Offshootref03Loose)) * 24 ≤ 140737488355328 ∧ List.length l3 + List.length ([(⟨v1, v2⟩ : Offshootref03Loose)] : List Offshootref03Loose) ≤ 140737488355328) then offshootref03_Dev_Write.j2 (offshootref03_Dev_Write.l1 K kl1) K v11 y1 (l3 ++ ([(⟨v1, v2⟩ : Offshootref03Loose)] : List Offshootref03Loose)) v1 v2 true v11 else none) else offshootref03_Dev_Write.j2 (offshootref03_Dev_Write.l1 K kl1) K v11 y1 l3 v1 v2 v10 v11) else none) else (if (!v10) = true then (if ((List.length l3 + List.length ([(⟨v1, v2⟩ : Offshootref03Loose)] : List Offshootref03Loose)) * 24 ≤ 140737488355328 ∧ List.length l3 + List.length ([(⟨v1, v2⟩ : Offshootref03Loose)] : List Offshootref03Loose) ≤ 140737488355328) then offshootref03_Dev_Write.j3 (offshootref03_Dev_Write.l1 K kl1) K y1 (l3 ++ ([(⟨v1, v2⟩ : Offshootref03Loose)] : List Offshootref03Loose)) else none) else offshootref03_Dev_Write.j3 (offshootref03_Dev_Write.l1 K kl1) K y1 l3))
def offshootref03_Dev_Write.f (K : Nat) (v0 : Offshootref03Dev) (v1 : Int) (v2 : List UInt8) : Option (Offshootref03Dev × Int) :=
  (if v0.Off = true then some (v0, 7) else (if (((decide (v1 < 0)) || (decide ((List.length v0.Sure : Int) ≤ v1))) || (!decide ((List.length v2 : Int) = 128))) = true then some (v0, 1) else (Option.bind (offshootref03_Dev_step.f K v0) fun t1 => (if (!decide (t1.2 = 0)) = true then some (t1.1, t1.2) else offshootref03_Dev_Write.l1 K K ([] : List Offshootref03Loose) t1.1 v1 v2 false 0))))

def offshootlaw03_both_do.j1 (K : Nat) (y1_2 : Int) (y1_4 : Bool) (l2 : List (List UInt8)) (m3 : List (Int × (List UInt8))) (l4 : List ApiFall) (y5_1 : Offshootref03Dev) (v6 : Int) (v7 : Int) : Option (Offshootlaw03Both × Bool × ODevDev) :=
  some ((⟨y5_1⟩ : Offshootlaw03Both), (decide (v6 = v7)), (⟨l2, m3, y1_2, l4, y1_4⟩ : ODevDev))
def offshootlaw03_both_do.j2 (K : Nat) (v0_0 : ODevDev) (y8 : ApiFall) (y5_1 : Offshootref03Dev) (v6 : Int) (v7 : Int) : Option (Offshootlaw03Both × Bool × ODevDev) :=
  (Option.bind (dev_Dev_Plan.f v0_0 ([y8] : List ApiFall)) fun t6 => offshootlaw03_both_do.j1 K t6.steps t6.off t6.sure t6.cache t6.falls (⟨y5_1.Sure, y5_1.Loose, y5_1.Steps, ([y8] : List ApiFall), y5_1.Off⟩ : Offshootref03Dev) v6 v7)
def offshootlaw03_both_do.j3 (K : Nat) (v0_0 : ODevDev) (y6 : Offshootlaw03Act) (y5_1 : Offshootref03Dev) (v10 : List UInt8) : Option (Offshootlaw03Both × Bool × ODevDev) :=
  (Option.bind (dev_Dev_Write.f K v0_0 y6.At v10) fun t8 => (Option.bind (offshootref03_Dev_Write.f K y5_1 y6.At v10) fun t9 => offshootlaw03_both_do.j1 K t8.2.steps t8.2.off t8.2.sure t8.2.cache t8.2.falls t9.1 t8.1 t9.2))
def offshootlaw03_both_do.f (K : Nat) (v0 : Offshootlaw03Both) (v0_0 : ODevDev) (v1 : Offshootlaw03Act) : Option (Offshootlaw03Both × Bool × ODevDev) :=
  (if (decide (v1.Kind = 3)) = true then (Option.bind (dev_Dev_Flush.f K v0_0) fun t1 => (Option.bind (offshootref03_Dev_Flush.f K v0.m) fun t2 => offshootlaw03_both_do.j1 K t1.2.steps t1.2.off t1.2.sure t1.2.cache t1.2.falls t2.1 t1.1 t2.2)) else (if (decide (v1.Kind = 4)) = true then (Option.bind (dev_Dev_Crash.f K v0_0 v1.Fall.Keep v1.Fall.Torn) fun t3 => (Option.bind (offshootref03_Dev_Crash.f K v0.m v1.Fall.Keep v1.Fall.Torn) fun t4 => offshootlaw03_both_do.j1 K t3.steps t3.off t3.sure t3.cache t3.falls t4 0 0)) else (if (decide (v1.Kind = 5)) = true then (Option.bind (dev_Dev_Up.f v0_0) fun t5 => some ((⟨(⟨v0.m.Sure, v0.m.Loose, v0.m.Steps, v0.m.Falls, false⟩ : Offshootref03Dev)⟩ : Offshootlaw03Both), (t5.1 == v0.m.Off), t5.2)) else (if (decide (v1.Kind = 6)) = true then (if ((decide (0 ≤ v1.Fall.At)) && (decide (v1.Fall.At < 1000))) = true then offshootlaw03_both_do.j2 K v0_0 (⟨(IntKind.wrap .i64 (v0.m.Steps + v1.Fall.At)), v1.Fall.Keep, v1.Fall.Torn⟩ : ApiFall) v0.m 0 0 else offshootlaw03_both_do.j2 K v0_0 v1.Fall v0.m 0 0) else (Option.bind (offshootlaw03_sector.f K v1.C) fun t7 => (if v1.Odd = true then (if ((0 : Int) ≤ 1 ∧ 1 ≤ (List.length t7 : Int)) then offshootlaw03_both_do.j3 K v0_0 v1 v0.m (List.drop (Int.toNat 1) t7) else none) else offshootlaw03_both_do.j3 K v0_0 v1 v0.m t7))))))

def offshootref03_Dev_Read.l1 (K : Nat) : Nat → Offshootref03Dev → Int → Int → Option (List UInt8 × Int)
  | 0, _, _, _ => none
  | kl1 + 1, y1, v1, v6 => (if (decide (v6 < (List.length y1.Loose : Int))) = true then (if ((0 : Int) ≤ v6 ∧ v6 < (List.length y1.Loose : Int)) then (if (decide (((List.getD y1.Loose (Int.toNat v6) default).At) = v1)) = true then (if ((0 : Int) ≤ v6 ∧ v6 < (List.length y1.Loose : Int)) then some ((List.getD y1.Loose (Int.toNat v6) default).S, 0) else none) else offshootref03_Dev_Read.l1 K kl1 y1 v1 (IntKind.wrap .i64 (v6 + 1))) else none) else (if ((0 : Int) ≤ v1 ∧ v1 < (List.length y1.Sure : Int)) then some ((List.getD y1.Sure (Int.toNat v1) default), 0) else none))
def offshootref03_Dev_Read.f (K : Nat) (v0 : Offshootref03Dev) (v1 : Int) : Option (List UInt8 × Int) :=
  (if v0.Off = true then some (([] : List UInt8), 7) else (if ((decide (v1 < 0)) || (decide ((List.length v0.Sure : Int) ≤ v1))) = true then some (([] : List UInt8), 1) else offshootref03_Dev_Read.l1 K K v0 v1 0))

def offshootlaw03_both_same.l1 (K : Nat) (v0_0 : ODevDev) : Nat → Offshootref03Dev → Int → Option Bool
  | 0, _, _ => none
  | kl1 + 1, y5_1, v3 => (if (decide (v3 ≤ (List.length y5_1.Sure : Int))) = true then (Option.bind (dev_Dev_Read.f v0_0 v3) fun t5 => (Option.bind (offshootref03_Dev_Read.f K y5_1 v3) fun t6 => (if ((!decide (t5.2 = t6.2)) || (!decide (t5.1 = t6.1))) = true then some (false) else offshootlaw03_both_same.l1 K v0_0 kl1 y5_1 (IntKind.wrap .i64 (v3 + 1))))) else some (true))
def offshootlaw03_both_same.f (K : Nat) (v0 : Offshootlaw03Both) (v0_0 : ODevDev) : Option Bool :=
  (Option.bind (dev_Dev_Off.f v0_0) fun t1 => (Option.bind (if (!(t1 == v0.m.Off)) = false then dev_Dev_Steps.f v0_0 else some default) fun t2 => (Option.bind (if ((!(t1 == v0.m.Off)) || (!decide (t2 = v0.m.Steps))) = false then dev_Dev_Loose.f v0_0 else some default) fun t3 => (Option.bind (if (((!(t1 == v0.m.Off)) || (!decide (t2 = v0.m.Steps))) || (!decide (t3 = (List.length v0.m.Loose : Int)))) = false then dev_Dev_Len.f v0_0 else some default) fun t4 => (if ((((!(t1 == v0.m.Off)) || (!decide (t2 = v0.m.Steps))) || (!decide (t3 = (List.length v0.m.Loose : Int)))) || (!decide (t4 = (List.length v0.m.Sure : Int)))) = true then some (false) else offshootlaw03_both_same.l1 K v0_0 K v0.m (-1))))))

def offshootlaw03_DevActs.j1 (s_l1 : Offshootref03Dev → Int → Bool → List (List UInt8) → List (Int × (List UInt8)) → List ApiFall → List Offshootlaw03Act → Int → Option Bool) (K : Nat) (y5_1 : Offshootref03Dev) (y6_1 : Offshootref03Dev) (y1_2 : Int) (y1_4 : Bool) (l2 : List (List UInt8)) (m3 : List (Int × (List UInt8))) (l4 : List ApiFall) (v1 : List Offshootlaw03Act) (v9 : Int) (v11 : Bool) : Option Bool :=
  (Option.bind (if (!v11) = false then offshootlaw03_both_same.f K (⟨y6_1⟩ : Offshootlaw03Both) (⟨l2, m3, y1_2, l4, y1_4⟩ : ODevDev) else some default) fun t4 => (if ((!v11) || (!t4)) = true then some (false) else s_l1 y6_1 y1_2 y1_4 l2 m3 l4 v1 (IntKind.wrap .i64 (v9 + 1))))
def offshootlaw03_DevActs.l1 (K : Nat) : Nat → Offshootref03Dev → Int → Bool → List (List UInt8) → List (Int × (List UInt8)) → List ApiFall → List Offshootlaw03Act → Int → Option Bool
  | 0, _, _, _, _, _, _, _, _ => none
  | kl1 + 1, y5_1, y1_2, y1_4, l2, m3, l4, v1, v9 => (if ((decide (v9 < (List.length v1 : Int))) && (decide (v9 < 50))) = true then (if ((0 : Int) ≤ v9 ∧ v9 < (List.length v1 : Int)) then (Option.bind (offshootlaw03_both_do.f K (⟨y5_1⟩ : Offshootlaw03Both) (⟨l2, m3, y1_2, l4, y1_4⟩ : ODevDev) (List.getD v1 (Int.toNat v9) default)) fun t5 => offshootlaw03_DevActs.j1 (offshootlaw03_DevActs.l1 K kl1) K y5_1 t5.1.m t5.2.2.steps t5.2.2.off t5.2.2.sure t5.2.2.cache t5.2.2.falls v1 v9 t5.2.1) else none) else some (true))
def offshootlaw03_DevActs.f (K : Nat) (v0 : Int) (v1 : List Offshootlaw03Act) : Option Bool :=
  (Option.bind (dev_New.f K (FW.andI .i64 v0 15)) fun t1 => (Option.bind (offshootref03_New.f K (FW.andI .i64 v0 15)) fun t2 => (Option.bind (offshootlaw03_awake.f K) fun t3 => (if ((!t3) || (!decide (t1.2 = 0))) = true then some (false) else offshootlaw03_DevActs.l1 K K t2 t1.1.steps t1.1.off t1.1.sure t1.1.cache t1.1.falls v1 0))))

def offshootlaw03_DevMany.l1 (K : Nat) : Nat → Offshootref03Dev → Int → Bool → List (List UInt8) → List (Int × (List UInt8)) → List ApiFall → Int → Int → Int → Option Bool
  | 0, _, _, _, _, _, _, _, _, _ => none
  | kl1 + 1, y5_1, y1_2, y1_4, l2, m3, l4, v0, v1, v8 => (if (decide (0 ≤ v8)) = true then (Option.bind (offshootlaw03_both_do.f K (⟨y5_1⟩ : Offshootlaw03Both) (⟨l2, m3, y1_2, l4, y1_4⟩ : ODevDev) (⟨0, v8, (IntKind.wrap .u8 (IntKind.wrap .i64 (v8 + 1))), false, (⟨0, 0, 0⟩ : ApiFall)⟩ : Offshootlaw03Act)) fun t4 => (if (!t4.2.1) = true then some (false) else offshootlaw03_DevMany.l1 K kl1 t4.1.m t4.2.2.steps t4.2.2.off t4.2.2.sure t4.2.2.cache t4.2.2.falls v0 v1 (IntKind.wrap .i64 (v8 - 1)))) else (Option.bind (offshootlaw03_both_do.f K (⟨y5_1⟩ : Offshootlaw03Both) (⟨l2, m3, y1_2, l4, y1_4⟩ : ODevDev) (⟨4, 0, 0, false, (⟨0, v0, v1⟩ : ApiFall)⟩ : Offshootlaw03Act)) fun t5 => (Option.bind (offshootlaw03_both_do.f K t5.1 t5.2.2 (⟨5, 0, 0, false, (⟨0, 0, 0⟩ : ApiFall)⟩ : Offshootlaw03Act)) fun t6 => (Option.bind (if (t5.2.1 && t6.2.1) = true then offshootlaw03_both_same.f K t6.1 t6.2.2 else some default) fun t7 => some (((t5.2.1 && t6.2.1) && t7))))))
def offshootlaw03_DevMany.f (K : Nat) (v0 : Int) (v1 : Int) : Option Bool :=
  (Option.bind (dev_New.f K 70) fun t1 => (Option.bind (offshootref03_New.f K 70) fun t2 => (Option.bind (offshootlaw03_awake.f K) fun t3 => (if ((!t3) || (!decide (t1.2 = 0))) = true then some (false) else offshootlaw03_DevMany.l1 K K t2 t1.1.steps t1.1.off t1.1.sure t1.1.cache t1.1.falls v0 v1 69))))
end Go.Proofs.Ytimaibcaehagjaa

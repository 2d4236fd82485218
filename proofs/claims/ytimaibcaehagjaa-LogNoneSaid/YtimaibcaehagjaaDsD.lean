/- Written by a program of this session (gen.py): functions of the program as plain Lean functions. -/
import Derived.Test.YtimaibcaehagjaaAvMoreD
import Derived.Test.YtimaibcaehagjaaHk
import Derived.Test.YtimaibcaehagjaaDvD
import Derived.Test.YtimaibcaehagjaaFl
namespace Go.Proofs.Ytimaibcaehagjaa
set_option linter.unusedVariables false
set_option maxRecDepth 20000
set_option maxHeartbeats 10000000
structure ApiFall where
  At : Int
  Keep : Int
  Torn : Int
  deriving Inhabited
def ApiFall.cells (x : ApiFall) : List FW.AV := [.lit (.int .i64 x.At), .lit (.int .u64 x.Keep), .lit (.int .i64 x.Torn)]
structure Offshootlaw03Act where
  Kind : Int
  At : Int
  C : Int
  Odd : Bool
  Fall : ApiFall
  deriving Inhabited
def Offshootlaw03Act.cells (x : Offshootlaw03Act) : List FW.AV := [.lit (.int .i64 x.Kind)] ++ [.lit (.int .i64 x.At)] ++ [.lit (.int .u8 x.C)] ++ [.lit (.bool x.Odd)] ++ ApiFall.cells x.Fall
def r_c_u8 (l : List Int) : List (List FW.AV) := l.map c_u8
theorem r_c_u8_eq : ∀ l, r_c_u8 l = l.map c_u8 := fun _ => rfl
def r_Offshootlaw03Act_cells (l : List Offshootlaw03Act) : List (List FW.AV) := l.map Offshootlaw03Act.cells
theorem r_Offshootlaw03Act_cells_eq : ∀ l, r_Offshootlaw03Act_cells l = l.map Offshootlaw03Act.cells := fun _ => rfl
def offshootlaw03_sector.l1 (K : Nat) : Nat → List Int → Int → Int → Option (List UInt8)
  | 0, _, _, _ => none
  | kl1 + 1, l1, v0, v4 => (if (decide (v4 < (List.length l1 : Int))) = true then (if ((0 : Int) ≤ v4 ∧ v4 < (List.length l1 : Int)) then offshootlaw03_sector.l1 K kl1 (List.set l1 (Int.toNat v4) v0) v0 (IntKind.wrap .i64 (v4 + 1)) else none) else some ((FW.toB l1)))
def offshootlaw03_sector.f (K : Nat) (v0 : Int) : Option (List UInt8) :=
  (if ((0 : Int) ≤ 128 ∧ (128 : Int) ≤ 1000000000000) then offshootlaw03_sector.l1 K K (List.replicate (Int.toNat 128) (0 : Int)) v0 0 else none)

def offshootlaw03_awake.f (K : Nat)  : Option Bool :=
  (Option.bind (dev_New.f K 2) fun t1 => (Option.bind (offshootlaw03_sector.f K 97) fun t2 => (Option.bind (dev_Dev_Write.f K t1.1 0 t2) fun t3 => (Option.bind (dev_Dev_Flush.f K t3.2) fun t4 => (Option.bind (offshootlaw03_sector.f K 98) fun t5 => (Option.bind (dev_Dev_Write.f K t4.2 1 t5) fun t6 => (Option.bind (dev_Dev_Crash.f K t6.2 0 0) fun t7 => (Option.bind (dev_Dev_Up.f t7) fun t8 => (Option.bind (dev_Dev_Read.f t8.2 0) fun t9 => (Option.bind (dev_Dev_Read.f t9.2.2 1) fun t10 => (Option.bind (if ((((((decide (t1.2 = 0)) && (decide (t3.1 = 0))) && (decide (t4.1 = 0))) && (decide (t6.1 = 0))) && t8.1) && (decide (t9.2.1 = 0))) = true then offshootlaw03_sector.f K 97 else some default) fun t11 => (Option.bind (if ((((((((decide (t1.2 = 0)) && (decide (t3.1 = 0))) && (decide (t4.1 = 0))) && (decide (t6.1 = 0))) && t8.1) && (decide (t9.2.1 = 0))) && (decide (t9.1 = t11))) && (decide (t10.2.1 = 0))) = true then offshootlaw03_sector.f K 0 else some default) fun t12 => some ((((((((((decide (t1.2 = 0)) && (decide (t3.1 = 0))) && (decide (t4.1 = 0))) && (decide (t6.1 = 0))) && t8.1) && (decide (t9.2.1 = 0))) && (decide (t9.1 = t11))) && (decide (t10.2.1 = 0))) && (decide (t10.1 = t12))))))))))))))))

def offshootlaw03_DevSure.j1 (s_l1 : Int → Bool → List (List UInt8) → List (Int × (List UInt8)) → ApiFall → List Offshootlaw03Act → List Offshootlaw03Act → Int → Option Bool) (K : Nat) (y2_2 : Int) (y2_4 : Bool) (l3 : List (List UInt8)) (m4 : List (Int × (List UInt8))) (y1 : ApiFall) (v0 : List Offshootlaw03Act) (v1 : List Offshootlaw03Act) (v9 : Int) : Option Bool :=
  s_l1 y2_2 y2_4 l3 m4 y1 v0 v1 (IntKind.wrap .i64 (v9 + 1))
def offshootlaw03_DevSure.j2 (s_l1 : Int → Bool → List (List UInt8) → List (Int × (List UInt8)) → ApiFall → List Offshootlaw03Act → List Offshootlaw03Act → Int → Option Bool) (s_l2 : Int → Bool → List (List UInt8) → List (Int × (List UInt8)) → ApiFall → List Offshootlaw03Act → Int → Int → Int → Option Bool) (K : Nat) (y2_2 : Int) (y2_4 : Bool) (l3 : List (List UInt8)) (m4 : List (Int × (List UInt8))) (y1 : ApiFall) (v1 : List Offshootlaw03Act) (v10 : Int) (v11 : Int) (v12 : Int) : Option Bool :=
  s_l2 y2_2 y2_4 l3 m4 y1 v1 v10 v11 (IntKind.wrap .i64 (v12 + 1))
def offshootlaw03_DevSure.l2 (s_l1 : Int → Bool → List (List UInt8) → List (Int × (List UInt8)) → ApiFall → List Offshootlaw03Act → List Offshootlaw03Act → Int → Option Bool) (K : Nat) : Nat → Int → Bool → List (List UInt8) → List (Int × (List UInt8)) → ApiFall → List Offshootlaw03Act → Int → Int → Int → Option Bool
  | 0, _, _, _, _, _, _, _, _, _ => none
  | kl2 + 1, y2_2, y2_4, l3, m4, y1, v1, v10, v11, v12 => (if ((decide (v12 < (List.length v1 : Int))) && (decide (v12 < 20))) = true then (if ((0 : Int) ≤ v12 ∧ v12 < (List.length v1 : Int)) then (if (decide (((List.getD v1 (Int.toNat v12) default).Kind) < 3)) = true → ((0 : Int) ≤ v12 ∧ v12 < (List.length v1 : Int)) then (if ((decide (((List.getD v1 (Int.toNat v12) default).Kind) < 3)) && (!decide (((List.getD v1 (Int.toNat v12) default).At) = 4))) = true then (if ((0 : Int) ≤ v12 ∧ v12 < (List.length v1 : Int)) then (if ((0 : Int) ≤ v12 ∧ v12 < (List.length v1 : Int)) then (Option.bind (offshootlaw03_sector.f K ((List.getD v1 (Int.toNat v12) default).C)) fun t8 => (Option.bind (dev_Dev_Write.f K (⟨l3, m4, y2_2, y2_4⟩ : ODevDev) ((List.getD v1 (Int.toNat v12) default).At) t8) fun t9 => offshootlaw03_DevSure.j2 s_l1 (offshootlaw03_DevSure.l2 s_l1 K kl2) K t9.2.steps t9.2.off t9.2.sure t9.2.cache y1 v1 v10 v11 v12)) else none) else none) else offshootlaw03_DevSure.j2 s_l1 (offshootlaw03_DevSure.l2 s_l1 K kl2) K y2_2 y2_4 l3 m4 y1 v1 v10 v11 v12) else none) else none) else (Option.bind (dev_Dev_Crash.f K (⟨l3, m4, y2_2, y2_4⟩ : ODevDev) y1.Keep y1.Torn) fun t10 => (Option.bind (dev_Dev_Up.f t10) fun t11 => (Option.bind (dev_Dev_Read.f t11.2 4) fun t12 => (Option.bind (if ((((decide (v10 = 0)) && (decide (v11 = 0))) && t11.1) && (decide (t12.2.1 = 0))) = true then offshootlaw03_sector.f K 115 else some default) fun t13 => some ((((((decide (v10 = 0)) && (decide (v11 = 0))) && t11.1) && (decide (t12.2.1 = 0))) && (decide (t12.1 = t13)))))))))
def offshootlaw03_DevSure.l1 (K : Nat) : Nat → Int → Bool → List (List UInt8) → List (Int × (List UInt8)) → ApiFall → List Offshootlaw03Act → List Offshootlaw03Act → Int → Option Bool
  | 0, _, _, _, _, _, _, _, _ => none
  | kl1 + 1, y2_2, y2_4, l3, m4, y1, v0, v1, v9 => (if ((decide (v9 < (List.length v0 : Int))) && (decide (v9 < 20))) = true then (if ((0 : Int) ≤ v9 ∧ v9 < (List.length v0 : Int)) then (if (decide (((List.getD v0 (Int.toNat v9) default).Kind) < 3)) = true → ((0 : Int) ≤ v9 ∧ v9 < (List.length v0 : Int)) then (if ((decide (((List.getD v0 (Int.toNat v9) default).Kind) < 3)) && (!((List.getD v0 (Int.toNat v9) default).Odd))) = true then (if ((0 : Int) ≤ v9 ∧ v9 < (List.length v0 : Int)) then (if ((0 : Int) ≤ v9 ∧ v9 < (List.length v0 : Int)) then (Option.bind (offshootlaw03_sector.f K ((List.getD v0 (Int.toNat v9) default).C)) fun t3 => (Option.bind (dev_Dev_Write.f K (⟨l3, m4, y2_2, y2_4⟩ : ODevDev) ((List.getD v0 (Int.toNat v9) default).At) t3) fun t4 => offshootlaw03_DevSure.j1 (offshootlaw03_DevSure.l1 K kl1) K t4.2.steps t4.2.off t4.2.sure t4.2.cache y1 v0 v1 v9)) else none) else none) else offshootlaw03_DevSure.j1 (offshootlaw03_DevSure.l1 K kl1) K y2_2 y2_4 l3 m4 y1 v0 v1 v9) else none) else none) else (Option.bind (offshootlaw03_sector.f K 115) fun t5 => (Option.bind (dev_Dev_Write.f K (⟨l3, m4, y2_2, y2_4⟩ : ODevDev) 4 t5) fun t6 => (Option.bind (dev_Dev_Flush.f K t6.2) fun t7 => offshootlaw03_DevSure.l2 (offshootlaw03_DevSure.l1 K kl1) K K t7.2.steps t7.2.off t7.2.sure t7.2.cache y1 v1 t6.1 t7.1 0))))
def offshootlaw03_DevSure.f (K : Nat) (v0 : List Offshootlaw03Act) (v1 : List Offshootlaw03Act) (v2 : ApiFall) : Option Bool :=
  (Option.bind (dev_New.f K 9) fun t1 => (Option.bind (offshootlaw03_awake.f K) fun t2 => (if ((!t2) || (!decide (t1.2 = 0))) = true then some (false) else offshootlaw03_DevSure.l1 K K t1.1.steps t1.1.off t1.1.sure t1.1.cache v2 v0 v1 0)))
end Go.Proofs.Ytimaibcaehagjaa

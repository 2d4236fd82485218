/- Written by a program of this session (gen.py): functions of the program as plain Lean functions. -/
import Derived.Test.YtimaibcaehagjaaAvMoreD
import Derived.Test.YtimaibcaehagjaaHk
import Derived.Test.YtimaibcaehagjaaDxD
import Derived.Test.YtimaibcaehagjaaFy
import Derived.Test.YtimaibcaehagjaaDaD
import Derived.Test.YtimaibcaehagjaaFz
namespace Go.Proofs.Ytimaibcaehagjaa
set_option linter.unusedVariables false
set_option maxRecDepth 20000
set_option maxHeartbeats 10000000

def dev_Dev_Off_nil.f   : Option Bool :=
  some (true)

def dev_Dev_Crash_nil.f (K : Nat) (v1 : Int) (v2 : Int) : Option Unit :=
  (Option.bind (dev_Dev_Off_nil.f) fun t1 => (if t1 = true then some () else none))

def dev_Dev_Plan_nil.f  (v1 : List ApiFall) : Option Unit :=
  some ()

def dev_Dev_Read_nil.f  (v1 : Int) : Option (List UInt8 × Int) :=
  (Option.bind (dev_Dev_Off_nil.f) fun t1 => (if t1 = true then some (([] : List UInt8), 7) else none))

def dev_New_opt.l1 (K : Nat) : Nat → Int → Bool → List (List UInt8) → Int → Int → Option (Option ODevDev × Int)
  | 0, _, _, _, _, _ => none
  | kl1 + 1, y4_2, y4_4, l1, v21, v22 => (if (decide (v22 < v21)) = true then (Option.bind (strings_Repeat.f ([0] : List UInt8) 128) fun t1 => (if ((0 : Int) ≤ v22 ∧ v22 < (List.length l1 : Int)) then dev_New_opt.l1 K kl1 y4_2 y4_4 (List.set l1 (Int.toNat v22) t1) v21 (IntKind.wrap .i64 (v22 + 1)) else none)) else some ((some (⟨l1, ([] : List (Int × (List UInt8))), y4_2, ([] : List ApiFall), y4_4⟩ : ODevDev)), 0))
def dev_New_opt.f (K : Nat) (v0 : Int) : Option (Option ODevDev × Int) :=
  (if ((decide (v0 < 0)) || (decide (65536 < v0))) = true then some (none, 1) else (if ((0 : Int) ≤ v0 ∧ (v0 : Int) ≤ 1000000000000) then dev_New_opt.l1 K K 0 false (List.replicate (Int.toNat v0) ([] : List UInt8)) (List.length (List.replicate (Int.toNat v0) ([] : List UInt8)) : Int) 0 else none))

def dev_Dev_Copy.f  (v0 : ODevDev) : Option (ODevDev × ODevDev) :=
  (if ((0 + List.length v0.sure) * 16 ≤ 140737488355328 ∧ 0 + List.length v0.sure ≤ 140737488355328) then (if ((0 + List.length v0.falls) * 24 ≤ 140737488355328 ∧ 0 + List.length v0.falls ≤ 140737488355328) then some (v0, v0) else none) else none)

def dev_Dev_Write_nil.f (K : Nat) (v1 : Int) (v2 : List UInt8) : Option Int :=
  (Option.bind (dev_Dev_Off_nil.f) fun t1 => (if t1 = true then some (7) else none))

def dev_Dev_Up_nil.f   : Option Bool :=
  some (false)

def dev_Dev_Len_nil.f   : Option Int :=
  some (0)

def dev_Dev_Steps_nil.f   : Option Int :=
  some (0)

def dev_Dev_Loose_nil.f   : Option Int :=
  some (0)

def dev_Dev_Copy_nil_opt.f   : Option (Option ODevDev) :=
  some (none)

def offshootlaw03_DevNone.f (K : Nat) (v0 : Int) (v1 : Offshootlaw03Act) : Option Bool :=
  (Option.bind (dev_Dev_Crash_nil.f K v1.Fall.Keep v1.Fall.Torn) fun t1 => (Option.bind (dev_Dev_Plan_nil.f ([v1.Fall] : List ApiFall)) fun t2 => (Option.bind (dev_Dev_Read_nil.f v1.At) fun t3 => (Option.bind (dev_New_opt.f K (IntKind.wrap .i64 (65535 + (FW.andI .i64 v0 3)))) fun t4 => (Option.bind (dev_New_opt.f K (IntKind.wrap .i64 ((-1) - (FW.andI .i64 v0 7)))) fun t5 => (Option.bind (dev_New.f K 1) fun t6 => (Option.bind (dev_Dev_Copy.f t6.1) fun t7 => (Option.bind (offshootlaw03_sector.f K 122) fun t8 => (Option.bind (dev_Dev_Write.f K t7.1 0 t8) fun t9 => (Option.bind (dev_Dev_Read.f t7.2 0) fun t10 => (Option.bind (offshootlaw03_awake.f K) fun t11 => (Option.bind (if t11 = true then offshootlaw03_sector.f K 97 else some default) fun t12 => (Option.bind (if t11 = true then dev_Dev_Write_nil.f K v1.At t12 else some default) fun t13 => (Option.bind (if ((t11 && (decide (t13 = 7))) && (decide (t3.2 = 7))) = true then dev_Dev_Flush_nil.f K else some default) fun t14 => (Option.bind (if (((t11 && (decide (t13 = 7))) && (decide (t3.2 = 7))) && (decide (t14 = 7))) = true then dev_Dev_Off_nil.f else some default) fun t15 => (Option.bind (if ((((t11 && (decide (t13 = 7))) && (decide (t3.2 = 7))) && (decide (t14 = 7))) && t15) = true then dev_Dev_Up_nil.f else some default) fun t16 => (Option.bind (if (((((t11 && (decide (t13 = 7))) && (decide (t3.2 = 7))) && (decide (t14 = 7))) && t15) && (!t16)) = true then dev_Dev_Len_nil.f else some default) fun t17 => (Option.bind (if ((((((t11 && (decide (t13 = 7))) && (decide (t3.2 = 7))) && (decide (t14 = 7))) && t15) && (!t16)) && (decide (t17 = 0))) = true then dev_Dev_Steps_nil.f else some default) fun t18 => (Option.bind (if (((((((t11 && (decide (t13 = 7))) && (decide (t3.2 = 7))) && (decide (t14 = 7))) && t15) && (!t16)) && (decide (t17 = 0))) && (decide (t18 = 0))) = true then dev_Dev_Loose_nil.f else some default) fun t19 => (Option.bind (if (((((((((((((((t11 && (decide (t13 = 7))) && (decide (t3.2 = 7))) && (decide (t14 = 7))) && t15) && (!t16)) && (decide (t17 = 0))) && (decide (t18 = 0))) && (decide (t19 = 0))) && true) && ((decide (t4.2 = 0)) == (decide ((IntKind.wrap .i64 (65535 + (FW.andI .i64 v0 3))) ≤ 65536)))) && ((!(Option.isNone t4.1)) == (decide (t4.2 = 0)))) && (decide (t5.2 = 1))) && (decide (t6.2 = 0))) && (decide (t9.1 = 0))) && (decide (t10.2 = 0))) = true then offshootlaw03_sector.f K 0 else some default) fun t20 => some (((((((((((((((((t11 && (decide (t13 = 7))) && (decide (t3.2 = 7))) && (decide (t14 = 7))) && t15) && (!t16)) && (decide (t17 = 0))) && (decide (t18 = 0))) && (decide (t19 = 0))) && true) && ((decide (t4.2 = 0)) == (decide ((IntKind.wrap .i64 (65535 + (FW.andI .i64 v0 3))) ≤ 65536)))) && ((!(Option.isNone t4.1)) == (decide (t4.2 = 0)))) && (decide (t5.2 = 1))) && (decide (t6.2 = 0))) && (decide (t9.1 = 0))) && (decide (t10.2 = 0))) && (decide (t10.1 = t20))))))))))))))))))))))))
end Go.Proofs.Ytimaibcaehagjaa

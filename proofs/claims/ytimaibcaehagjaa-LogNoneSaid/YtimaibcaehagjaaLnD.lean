/- Written by a program of this session (gen.py): functions of the program as plain Lean functions. -/
import Derived.Test.YtimaibcaehagjaaAvMoreD
import Derived.Test.YtimaibcaehagjaaHk
import Derived.Test.YtimaibcaehagjaaDvD
import Derived.Test.YtimaibcaehagjaaFl
import Derived.Test.YtimaibcaehagjaaDsD
import Derived.Test.YtimaibcaehagjaaLgD
import Derived.Test.YtimaibcaehagjaaLsD
namespace Go.Proofs.Ytimaibcaehagjaa
set_option linter.unusedVariables false
set_option maxRecDepth 20000
set_option maxHeartbeats 10000000

def log_Log_Reset_nil.f   : Option Unit :=
  some ()

def log_Open_opt.l1 (K : Nat) : Nat → List (List UInt8) → Int → Int → Int → Int → Int → Bool → List (List UInt8) → List (Int × (List UInt8)) → Option (Option OLogLog × List (List UInt8) × Int × ODevDev)
  | 0, _, _, _, _, _, _, _, _, _ => none
  | kl1 + 1, l5, y4_1, y4_2, y4_3, y4_4, y1_2, y1_4, l2, m3 => (Option.bind (log_Log_read.f K (⟨y4_1, y4_2, y4_3, y4_4⟩ : OLogLog) (⟨l2, m3, y1_2, y1_4⟩ : ODevDev)) fun t3 => (if (!t3.2.1) = true then some ((some t3.2.2.1), l5, 0, t3.2.2.2) else (if ((List.length l5 + List.length ([t3.1] : List (List UInt8))) * 16 ≤ 140737488355328 ∧ List.length l5 + List.length ([t3.1] : List (List UInt8)) ≤ 140737488355328) then (Option.bind (log_Sectors.f (List.length t3.1 : Int)) fun t4 => log_Open_opt.l1 K kl1 (l5 ++ ([t3.1] : List (List UInt8))) t3.2.2.1.from_ t3.2.2.1.to_ (IntKind.wrap .i64 (t3.2.2.1.at_ + t4)) (IntKind.wrap .u64 (t3.2.2.1.next + 1)) t3.2.2.2.steps t3.2.2.2.off t3.2.2.2.sure t3.2.2.2.cache) else none)))
def log_Open_opt.f (K : Nat) (v0 : ODevDev) (v1 : Int) (v2 : Int) (v3 : Int) : Option (Option OLogLog × List (List UInt8) × Int × ODevDev) :=
  (Option.bind (if ((decide (v1 < 0)) || (decide (v2 < v1))) = false then dev_Dev_Len.f v0 else some (default, v0)) fun t1 => (if ((((decide (v1 < 0)) || (decide (v2 < v1))) || (decide (t1.1 < v2))) || (decide (v3 = 0))) = true then some (none, [], 1, t1.2) else (Option.bind (dev_Dev_Off.f t1.2) fun t2 => (if t2.1 = true then some (none, [], 7, t2.2) else log_Open_opt.l1 K K ([] : List (List UInt8)) v1 v2 v1 v3 t2.2.steps t2.2.off t2.2.sure t2.2.cache))))

def dev_Dev_Len_nil.f   : Option Int :=
  some (0)

def dev_Dev_Off_nil.f   : Option Bool :=
  some (true)

def log_Open_nil_opt.f (K : Nat) (v1 : Int) (v2 : Int) (v3 : Int) : Option (Option OLogLog × List (List UInt8) × Int) :=
  some (none, [], 1)

def offshootlaw04_few.f  (v0 : List UInt8) : Option (List UInt8) :=
  (if (decide (500 < (List.length v0 : Int))) = true then (if ((0 : Int) ≤ 500 ∧ 500 ≤ (List.length v0 : Int)) then some ((List.take (Int.toNat 500) v0)) else none) else some (v0))

def log_Log_Add_nil.f (K : Nat) (v1 : List UInt8) : Option Int :=
  some (7)

def log_Log_Next_nil.f   : Option Int :=
  some (0)

def log_Log_Room_nil.f   : Option Int :=
  some (0)

def offshootlaw04_LogNone.f (K : Nat) (v0 : List UInt8) (v1 : Int) (v2 : Int) : Option Bool :=
  (Option.bind (log_Log_Reset_nil.f) fun t1 => (Option.bind (dev_New.f K 10) fun t2 => (Option.bind (log_Open_opt.f K t2.1 v1 v2 1) fun t3 => (Option.bind (log_Open_nil_opt.f K 0 0 1) fun t4 => (Option.bind (log_Open.f K t3.2.2.2 0 10 1) fun t5 => (Option.bind (dev_Dev_Crash.f K t5.2.2.2 0 0) fun t6 => (Option.bind (log_Open_opt.f K t6 0 10 1) fun t7 => (Option.bind (offshootlaw04_awake.f K) fun t8 => (Option.bind (if (t8 && (decide (t2.2 = 0))) = true then offshootlaw04_few.f v0 else some default) fun t9 => (Option.bind (if (t8 && (decide (t2.2 = 0))) = true then log_Log_Add_nil.f K t9 else some default) fun t10 => (Option.bind (if ((t8 && (decide (t2.2 = 0))) && (decide (t10 = 7))) = true then log_Log_Next_nil.f else some default) fun t11 => (Option.bind (if (((t8 && (decide (t2.2 = 0))) && (decide (t10 = 7))) && (decide (t11 = 0))) = true then log_Log_Room_nil.f else some default) fun t12 => (Option.bind (if (((((((((t8 && (decide (t2.2 = 0))) && (decide (t10 = 7))) && (decide (t11 = 0))) && (decide (t12 = 0))) && ((decide (t3.2.2.1 = 0)) == (((decide (0 ≤ v1)) && (decide (v1 ≤ v2))) && (decide (v2 ≤ 10))))) && ((!(Option.isNone t3.1)) == (((decide (0 ≤ v1)) && (decide (v1 ≤ v2))) && (decide (v2 ≤ 10))))) && ((((decide (0 ≤ v1)) && (decide (v1 ≤ v2))) && (decide (v2 ≤ 10))) || (decide (t3.2.2.1 = 1)))) && (decide (t4.2.2 = 1))) && (decide (t5.2.2.1 = 0))) = true then offshootlaw04_few.f v0 else some default) fun t13 => (Option.bind (if (((((((((t8 && (decide (t2.2 = 0))) && (decide (t10 = 7))) && (decide (t11 = 0))) && (decide (t12 = 0))) && ((decide (t3.2.2.1 = 0)) == (((decide (0 ≤ v1)) && (decide (v1 ≤ v2))) && (decide (v2 ≤ 10))))) && ((!(Option.isNone t3.1)) == (((decide (0 ≤ v1)) && (decide (v1 ≤ v2))) && (decide (v2 ≤ 10))))) && ((((decide (0 ≤ v1)) && (decide (v1 ≤ v2))) && (decide (v2 ≤ 10))) || (decide (t3.2.2.1 = 1)))) && (decide (t4.2.2 = 1))) && (decide (t5.2.2.1 = 0))) = true then log_Log_Add.f K t5.1 t7.2.2.2 t13 else some (default, t5.1, t7.2.2.2)) fun t14 => some ((((((((((((t8 && (decide (t2.2 = 0))) && (decide (t10 = 7))) && (decide (t11 = 0))) && (decide (t12 = 0))) && ((decide (t3.2.2.1 = 0)) == (((decide (0 ≤ v1)) && (decide (v1 ≤ v2))) && (decide (v2 ≤ 10))))) && ((!(Option.isNone t3.1)) == (((decide (0 ≤ v1)) && (decide (v1 ≤ v2))) && (decide (v2 ≤ 10))))) && ((((decide (0 ≤ v1)) && (decide (v1 ≤ v2))) && (decide (v2 ≤ 10))) || (decide (t3.2.2.1 = 1)))) && (decide (t4.2.2 = 1))) && (decide (t5.2.2.1 = 0))) && (decide (t14.1 = 7))) && (decide (t7.2.2.1 = 7))))))))))))))))))
end Go.Proofs.Ytimaibcaehagjaa

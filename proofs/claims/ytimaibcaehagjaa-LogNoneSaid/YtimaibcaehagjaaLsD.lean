/- Written by a program of this session (gen.py): functions of the program as plain Lean functions. -/
import Derived.Test.YtimaibcaehagjaaAvMoreD
import Derived.Test.YtimaibcaehagjaaHk
import Derived.Test.YtimaibcaehagjaaDvD
import Derived.Test.YtimaibcaehagjaaFl
import Derived.Test.YtimaibcaehagjaaDsD
import Derived.Test.YtimaibcaehagjaaLgD
namespace Go.Proofs.Ytimaibcaehagjaa
set_option linter.unusedVariables false
set_option maxRecDepth 20000
set_option maxHeartbeats 10000000

def offshootlaw04_awake.f (K : Nat)  : Option Bool :=
  (Option.bind (dev_New.f K 8) fun t1 => (Option.bind (log_Open.f K t1.1 1 8 5) fun t2 => (Option.bind (log_Log_Add.f K t2.1 t2.2.2.2 ([101, 110, 116, 114, 121] : List UInt8)) fun t3 => (Option.bind (dev_Dev_Crash.f K t3.2.2 0 0) fun t4 => (Option.bind (dev_Dev_Up.f t4) fun t5 => (Option.bind (log_Open.f K t5.2 1 8 5) fun t6 => (if ((((((decide (t1.2 = 0)) && (decide (t2.2.2.1 = 0))) && (decide ((List.length t2.2.1 : Int) = 0))) && (decide (t3.1 = 0))) && (decide (t6.2.2.1 = 0))) && (decide ((List.length t6.2.1 : Int) = 1))) = true → ((0 : Int) ≤ 0 ∧ 0 < (List.length t6.2.1 : Int)) then some ((((((((decide (t1.2 = 0)) && (decide (t2.2.2.1 = 0))) && (decide ((List.length t2.2.1 : Int) = 0))) && (decide (t3.1 = 0))) && (decide (t6.2.2.1 = 0))) && (decide ((List.length t6.2.1 : Int) = 1))) && (decide ((List.getD t6.2.1 (Int.toNat 0) default) = ([101, 110, 116, 114, 121] : List UInt8))))) else none)))))))

def offshootref04_Sectors.l1 (K : Nat) : Nat → Int → Int → Option Int
  | 0, _, _ => none
  | kl1 + 1, v0, v3 => (if (decide (104 < v0)) = true then offshootref04_Sectors.l1 K kl1 (IntKind.wrap .i64 (v0 - 128)) (IntKind.wrap .i64 (v3 + 1)) else some (v3))
def offshootref04_Sectors.f (K : Nat) (v0 : Int) : Option Int :=
  offshootref04_Sectors.l1 K K v0 1

def offshootlaw04_LogSectors.f (K : Nat) (v0 : Int) : Option Bool :=
  (Option.bind (offshootlaw04_awake.f K) fun t1 => (Option.bind (if t1 = true then log_Sectors.f (FW.andI .i64 v0 65535) else some default) fun t2 => (Option.bind (if t1 = true then offshootref04_Sectors.f K (FW.andI .i64 v0 65535) else some default) fun t3 => (Option.bind (if (t1 && (decide (t2 = t3))) = true then log_Sectors.f 0 else some default) fun t4 => some (((t1 && (decide (t2 = t3))) && (decide (t4 = 1))))))))
end Go.Proofs.Ytimaibcaehagjaa

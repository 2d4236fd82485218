/- Written by a program of this session (gen.py): functions of the program as plain Lean functions. -/
import Derived.Test.YtimaibcaehagjaaAvMoreD
import Derived.Test.YtimaibcaehagjaaHk
import Derived.Test.YtimaibcaehagjaaDvD
import Derived.Test.YtimaibcaehagjaaFl
import Derived.Test.YtimaibcaehagjaaDsD
namespace Go.Proofs.Ytimaibcaehagjaa
set_option linter.unusedVariables false
set_option maxRecDepth 20000
set_option maxHeartbeats 10000000

structure OLogLog where
  from_ : Int
  to_ : Int
  at_ : Int
  next : Int
  deriving Inhabited
abbrev OLogLog.items (b : Nat) (p0 : Nat) (x : OLogLog) : List FW.It := [FW.blk b 127 [.lit (.pointer (some ⟨p0, 0, none⟩)), .lit (.int .i64 x.from_), .lit (.int .i64 x.to_), .lit (.int .i64 x.at_), .lit (.int .u64 x.next)]]
def val_Wide.l1 (K : Nat) : Nat → List UInt8 → Int → Int → Int → Option Int
  | 0, _, _, _, _ => none
  | kl1 + 1, v0, v3, v7, v8 => (if (decide (v8 < v7)) = true then (if ((0 : Int) ≤ v8 ∧ v8 < (List.length v0 : Int)) then val_Wide.l1 K kl1 v0 (FW.orI .u64 (FW.shlI .u64 v3 8) (IntKind.wrap .u64 (FW.bt v0 v8))) v7 (IntKind.wrap .i64 (v8 + 1)) else none) else some (v3))
def val_Wide.f (K : Nat) (v0 : List UInt8) : Option Int :=
  val_Wide.l1 K K v0 0 (if 8 < (List.length v0 : Int) then 8 else (List.length v0 : Int)) 0

def log_Sectors.f  (v0 : Int) : Option Int :=
  some ((IntKind.wrap .i64 (1 + (IntKind.wrap .i64 (Int.tdiv (IntKind.wrap .i64 ((IntKind.wrap .i64 ((if (IntKind.wrap .i64 (v0 - 104)) < 0 then 0 else (IntKind.wrap .i64 (v0 - 104))) + 128)) - 1)) 128)))))

def log_Log_read.l1 (K : Nat) : Nat → Int → Bool → List (List UInt8) → List (Int × (List UInt8)) → Int → Int → Int → Int → Int → Int → List UInt8 → Int → Option (List UInt8 × Bool × OLogLog × ODevDev)
  | 0, _, _, _, _, _, _, _, _, _, _, _, _ => none
  | kl1 + 1, y2_2, y2_4, l3, m4, y1_1, y1_2, y1_3, y1_4, v6, v7, v8, v9 => (if (decide (v9 < v7)) = true then (Option.bind (dev_Dev_Read.f (⟨l3, m4, y2_2, y2_4⟩ : ODevDev) (IntKind.wrap .i64 (y1_3 + v9))) fun t6 => (if (List.length v8 : Int) + List.length t6.1 ≤ 9223372036854775807 then log_Log_read.l1 K kl1 t6.2.2.steps t6.2.2.off t6.2.2.sure t6.2.2.cache y1_1 y1_2 y1_3 y1_4 v6 v7 (v8 ++ t6.1) (IntKind.wrap .i64 (v9 + 1)) else none)) else (if ((0 : Int) ≤ v6 ∧ v6 ≤ (List.length v8 : Int)) then some ((List.take (Int.toNat v6) v8), true, (⟨y1_1, y1_2, y1_3, y1_4⟩ : OLogLog), (⟨l3, m4, y2_2, y2_4⟩ : ODevDev)) else none))
def log_Log_read.f (K : Nat) (v0 : OLogLog) (v0_0 : ODevDev) : Option (List UInt8 × Bool × OLogLog × ODevDev) :=
  (if (decide (v0.to_ ≤ v0.at_)) = true then some (([] : List UInt8), false, v0, v0_0) else (Option.bind (dev_Dev_Read.f v0_0 v0.at_) fun t1 => (if ((0 : Int) ≤ 8 ∧ (8 : Int) ≤ 16 ∧ 16 ≤ (List.length t1.1 : Int)) then (Option.bind (val_Wide.f K (List.take (Int.toNat 16 - Int.toNat 8) (List.drop (Int.toNat 8) t1.1))) fun t2 => (if ((0 : Int) ≤ 8 ∧ 8 ≤ (List.length t1.1 : Int)) then (Option.bind (val_Wide.f K (List.take (Int.toNat 8) t1.1)) fun t3 => (if (!decide (t3 = v0.next)) = false → ((0 : Int) ≤ (IntKind.wrap .i64 ((List.length t1.1 : Int) - 8)) ∧ (IntKind.wrap .i64 ((List.length t1.1 : Int) - 8)) ≤ (List.length t1.1 : Int)) then (Option.bind (if (!decide (t3 = v0.next)) = false then val_Wide.f K (List.drop (Int.toNat (IntKind.wrap .i64 ((List.length t1.1 : Int) - 8))) t1.1) else some default) fun t4 => (if (((!decide (t3 = v0.next)) || (!decide (t4 = v0.next))) || (decide ((IntKind.wrap .u64 ((IntKind.wrap .u64 (IntKind.wrap .i64 (v0.to_ - v0.at_))) * 128)) < t2))) = true then some (([] : List UInt8), false, v0, t1.2.2) else (Option.bind (log_Sectors.f (IntKind.wrap .i64 t2)) fun t5 => (if (decide ((IntKind.wrap .i64 (v0.to_ - v0.at_)) < t5)) = true then some (([] : List UInt8), false, v0, t1.2.2) else (if ((0 : Int) ≤ 16 ∧ (16 : Int) ≤ 120 ∧ 120 ≤ (List.length t1.1 : Int)) then log_Log_read.l1 K K t1.2.2.steps t1.2.2.off t1.2.2.sure t1.2.2.cache v0.from_ v0.to_ v0.at_ v0.next t2 t5 (List.take (Int.toNat 120 - Int.toNat 16) (List.drop (Int.toNat 16) t1.1)) 1 else none))))) else none)) else none)) else none)))

def log_Open.l1 (K : Nat) : Nat → List (List UInt8) → Int → Int → Int → Int → Int → Bool → List (List UInt8) → List (Int × (List UInt8)) → Option (OLogLog × List (List UInt8) × Int × ODevDev)
  | 0, _, _, _, _, _, _, _, _, _ => none
  | kl1 + 1, l5, y4_1, y4_2, y4_3, y4_4, y1_2, y1_4, l2, m3 => (Option.bind (log_Log_read.f K (⟨y4_1, y4_2, y4_3, y4_4⟩ : OLogLog) (⟨l2, m3, y1_2, y1_4⟩ : ODevDev)) fun t3 => (if (!t3.2.1) = true then some (t3.2.2.1, l5, 0, t3.2.2.2) else (if ((List.length l5 + List.length ([t3.1] : List (List UInt8))) * 16 ≤ 140737488355328 ∧ List.length l5 + List.length ([t3.1] : List (List UInt8)) ≤ 140737488355328) then (Option.bind (log_Sectors.f (List.length t3.1 : Int)) fun t4 => log_Open.l1 K kl1 (l5 ++ ([t3.1] : List (List UInt8))) t3.2.2.1.from_ t3.2.2.1.to_ (IntKind.wrap .i64 (t3.2.2.1.at_ + t4)) (IntKind.wrap .u64 (t3.2.2.1.next + 1)) t3.2.2.2.steps t3.2.2.2.off t3.2.2.2.sure t3.2.2.2.cache) else none)))
def log_Open.f (K : Nat) (v0 : ODevDev) (v1 : Int) (v2 : Int) (v3 : Int) : Option (OLogLog × List (List UInt8) × Int × ODevDev) :=
  (Option.bind (if ((decide (v1 < 0)) || (decide (v2 < v1))) = false then dev_Dev_Len.f v0 else some (default, v0)) fun t1 => (if ((((decide (v1 < 0)) || (decide (v2 < v1))) || (decide (t1.1 < v2))) || (decide (v3 = 0))) = true then none else (Option.bind (dev_Dev_Off.f t1.2) fun t2 => (if t2.1 = true then none else log_Open.l1 K K ([] : List (List UInt8)) v1 v2 v1 v3 t2.2.steps t2.2.off t2.2.sure t2.2.cache))))

def log_pad.f  (v0 : List UInt8) (v1 : Int) : Option (List UInt8) :=
  (Option.bind (strings_Repeat.f ([0] : List UInt8) (IntKind.wrap .i64 (v1 - (List.length v0 : Int)))) fun t1 => (if (List.length v0 : Int) + List.length t1 ≤ 9223372036854775807 then some ((v0 ++ t1)) else none))

def log_Log_body.j1 (s_l1 : Int → Int → Int → Int → Int → Bool → List (List UInt8) → List (Int × (List UInt8)) → Int → List UInt8 → Int → Option (Int × OLogLog × ODevDev)) (K : Nat) (y2_2 : Int) (y2_4 : Bool) (l3 : List (List UInt8)) (m4 : List (Int × (List UInt8))) (y1_1 : Int) (y1_2 : Int) (y1_3 : Int) (y1_4 : Int) : Option (Int × OLogLog × ODevDev) :=
  (Option.bind (dev_Dev_Flush.f K (⟨l3, m4, y2_2, y2_4⟩ : ODevDev)) fun t4 => some (t4.1, (⟨y1_1, y1_2, y1_3, y1_4⟩ : OLogLog), t4.2))
def log_Log_body.l1 (K : Nat) : Nat → Int → Int → Int → Int → Int → Bool → List (List UInt8) → List (Int × (List UInt8)) → Int → List UInt8 → Int → Option (Int × OLogLog × ODevDev)
  | 0, _, _, _, _, _, _, _, _, _, _, _ => none
  | kl1 + 1, y1_1, y1_2, y1_3, y1_4, y2_2, y2_4, l3, m4, v5, v6, v7 => (if (decide (v7 < v5)) = true then (if ((0 : Int) ≤ (if 128 < (List.length v6 : Int) then 128 else (List.length v6 : Int)) ∧ (if 128 < (List.length v6 : Int) then 128 else (List.length v6 : Int)) ≤ (List.length v6 : Int)) then (Option.bind (log_pad.f (List.take (Int.toNat (if 128 < (List.length v6 : Int) then 128 else (List.length v6 : Int))) v6) 128) fun t2 => (Option.bind (dev_Dev_Write.f K (⟨l3, m4, y2_2, y2_4⟩ : ODevDev) v7 t2) fun t3 => (if (!decide (t3.1 = 0)) = true then some (t3.1, (⟨y1_1, y1_2, y1_3, y1_4⟩ : OLogLog), t3.2) else (if ((0 : Int) ≤ (if 128 < (List.length v6 : Int) then 128 else (List.length v6 : Int)) ∧ (if 128 < (List.length v6 : Int) then 128 else (List.length v6 : Int)) ≤ (List.length v6 : Int)) then log_Log_body.l1 K kl1 y1_1 y1_2 y1_3 y1_4 t3.2.steps t3.2.off t3.2.sure t3.2.cache v5 (List.drop (Int.toNat (if 128 < (List.length v6 : Int) then 128 else (List.length v6 : Int))) v6) (IntKind.wrap .i64 (v7 + 1)) else none)))) else none) else (if (decide (v5 < y1_2)) = true then (Option.bind (log_pad.f ([] : List UInt8) 128) fun t5 => (Option.bind (dev_Dev_Write.f K (⟨l3, m4, y2_2, y2_4⟩ : ODevDev) v5 t5) fun t6 => (if (!decide (t6.1 = 0)) = true then some (t6.1, (⟨y1_1, y1_2, y1_3, y1_4⟩ : OLogLog), t6.2) else log_Log_body.j1 (log_Log_body.l1 K kl1) K t6.2.steps t6.2.off t6.2.sure t6.2.cache y1_1 y1_2 y1_3 y1_4))) else log_Log_body.j1 (log_Log_body.l1 K kl1) K y2_2 y2_4 l3 m4 y1_1 y1_2 y1_3 y1_4))
def log_Log_body.f (K : Nat) (v0 : OLogLog) (v0_0 : ODevDev) (v1 : List UInt8) : Option (Int × OLogLog × ODevDev) :=
  (Option.bind (log_Sectors.f (List.length v1 : Int)) fun t1 => (if ((0 : Int) ≤ (if 104 < (List.length v1 : Int) then 104 else (List.length v1 : Int)) ∧ (if 104 < (List.length v1 : Int) then 104 else (List.length v1 : Int)) ≤ (List.length v1 : Int)) then log_Log_body.l1 K K v0.from_ v0.to_ v0.at_ v0.next v0_0.steps v0_0.off v0_0.sure v0_0.cache (IntKind.wrap .i64 (v0.at_ + t1)) (List.drop (Int.toNat (if 104 < (List.length v1 : Int) then 104 else (List.length v1 : Int))) v1) (IntKind.wrap .i64 (v0.at_ + 1)) else none))

def val_Eight.l1 (K : Nat) : Nat → List Int → Int → Int → Option (List UInt8)
  | 0, _, _, _ => none
  | kl1 + 1, l1, v0, v5 => (if (decide (v5 < 8)) = true then (if (0 : Int) ≤ (IntKind.wrap .i64 (56 - (IntKind.wrap .i64 (8 * v5)))) then (if ((0 : Int) ≤ v5 ∧ v5 < (List.length l1 : Int)) then val_Eight.l1 K kl1 (List.set l1 (Int.toNat v5) (IntKind.wrap .u8 (FW.shrI .u64 v0 (IntKind.wrap .i64 (56 - (IntKind.wrap .i64 (8 * v5))))))) v0 (IntKind.wrap .i64 (v5 + 1)) else none) else none) else (if (List.length l1 = 8) then some ((FW.toB l1)) else none))
def val_Eight.f (K : Nat) (v0 : Int) : Option (List UInt8) :=
  val_Eight.l1 K K (List.replicate 8 (0 : Int)) v0 0

def log_head.f (K : Nat) (v0 : Int) (v1 : List UInt8) : Option (List UInt8) :=
  (Option.bind (val_Eight.f K v0) fun t1 => (Option.bind (val_Eight.f K (IntKind.wrap .u64 (List.length v1 : Int))) fun t2 => (if (List.length t1 : Int) + List.length t2 ≤ 9223372036854775807 then (if ((0 : Int) ≤ (if 104 < (List.length v1 : Int) then 104 else (List.length v1 : Int)) ∧ (if 104 < (List.length v1 : Int) then 104 else (List.length v1 : Int)) ≤ (List.length v1 : Int)) then (Option.bind (log_pad.f (List.take (Int.toNat (if 104 < (List.length v1 : Int) then 104 else (List.length v1 : Int))) v1) 104) fun t3 => (if (List.length (t1 ++ t2) : Int) + List.length t3 ≤ 9223372036854775807 then (Option.bind (val_Eight.f K v0) fun t4 => (if (List.length ((t1 ++ t2) ++ t3) : Int) + List.length t4 ≤ 9223372036854775807 then some ((((t1 ++ t2) ++ t3) ++ t4)) else none)) else none)) else none) else none)))

def log_Log_Add.f (K : Nat) (v0 : OLogLog) (v0_0 : ODevDev) (v1 : List UInt8) : Option (Int × OLogLog × ODevDev) :=
  (Option.bind (if false = false then dev_Dev_Off.f v0_0 else some (default, v0_0)) fun t1 => (if t1.1 = true then some (7, v0, t1.2) else (Option.bind (log_Sectors.f (List.length v1 : Int)) fun t2 => (if (decide ((IntKind.wrap .i64 (v0.to_ - v0.at_)) < t2)) = true then some (40, v0, t1.2) else (Option.bind (log_Log_body.f K v0 t1.2 v1) fun t3 => (if (!decide (t3.1 = 0)) = true then some (t3.1, t3.2.1, t3.2.2) else (Option.bind (log_head.f K t3.2.1.next v1) fun t4 => (Option.bind (dev_Dev_Write.f K t3.2.2 t3.2.1.at_ t4) fun t5 => (if (!decide (t5.1 = 0)) = true then some (t5.1, t3.2.1, t5.2) else (Option.bind (dev_Dev_Flush.f K t5.2) fun t6 => (if (!decide (t6.1 = 0)) = true then some (t6.1, t3.2.1, t6.2) else (Option.bind (log_Sectors.f (List.length v1 : Int)) fun t7 => some (0, (⟨t3.2.1.from_, t3.2.1.to_, (IntKind.wrap .i64 (t3.2.1.at_ + t7)), (IntKind.wrap .u64 (t3.2.1.next + 1))⟩ : OLogLog), t6.2)))))))))))))

def log_Log_Reset.f  (v0 : OLogLog) (v0_0 : ODevDev) : Option (OLogLog × ODevDev) :=
  some ((⟨v0.from_, v0.to_, v0.from_, v0.next⟩ : OLogLog), v0_0)

def log_Log_Next.f  (v0 : OLogLog) (v0_0 : ODevDev) : Option (Int × OLogLog × ODevDev) :=
  some (v0.next, v0, v0_0)

def log_Log_Room.f  (v0 : OLogLog) (v0_0 : ODevDev) : Option (Int × OLogLog × ODevDev) :=
  some ((IntKind.wrap .i64 (v0.to_ - v0.at_)), v0, v0_0)
end Go.Proofs.Ytimaibcaehagjaa

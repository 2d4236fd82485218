/- Written by a program of this session (gen.py): functions of the program as plain Lean functions. -/
import Derived.Test.YtbjbgodcenopnaaHob
namespace Go.Proofs.Ytbjbgodcenopnaa
set_option linter.unusedVariables false
set_option maxRecDepth 20000
set_option maxHeartbeats 10000000
def c_bool (x : Bool) : List FW.AV := [.lit (.bool x)]
def c_f64 (x : Nat) : List FW.AV := [.lit (.float .f64 x)]
def c_str (x : List UInt8) : List FW.AV := [.lit (.string (FW.B x))]
def c_i8 (x : Int) : List FW.AV := [.lit (.int .i8 x)]
def c_i16 (x : Int) : List FW.AV := [.lit (.int .i16 x)]
def c_i32 (x : Int) : List FW.AV := [.lit (.int .i32 x)]
def c_i64 (x : Int) : List FW.AV := [.lit (.int .i64 x)]
def c_u8 (x : Int) : List FW.AV := [.lit (.int .u8 x)]
def c_u16 (x : Int) : List FW.AV := [.lit (.int .u16 x)]
def c_u32 (x : Int) : List FW.AV := [.lit (.int .u32 x)]
def c_u64 (x : Int) : List FW.AV := [.lit (.int .u64 x)]
structure ApiValue where
  Kind : Int
  B : Bool
  N : Int
  F : Nat
  S : List UInt8
  L : List ApiValue
instance : Inhabited ApiValue := ⟨⟨default, default, default, default, default, []⟩⟩
mutual
def ApiValue.cellsR : ApiValue → List FW.AV
  | ⟨x0, x1, x2, x3, x4, x5⟩ => [.lit (.int .i64 x0), .lit (.bool x1), .lit (.int .i64 x2), .lit (.float .f64 x3), .lit (.string (FW.B x4)), .row (r_ApiValue_cells x5)]
def r_ApiValue_cells : List ApiValue → List (List FW.AV)
  | [] => []
  | x :: r => ApiValue.cellsR x :: r_ApiValue_cells r
end
def ApiValue.cells (x : ApiValue) : List FW.AV := [.lit (.int .i64 x.Kind), .lit (.bool x.B), .lit (.int .i64 x.N), .lit (.float .f64 x.F), .lit (.string (FW.B x.S)), .row (r_ApiValue_cells x.L)]
theorem ApiValue.cellsR_eq (x : ApiValue) : x.cellsR = x.cells := by cases x; simp [ApiValue.cellsR, ApiValue.cells]
theorem r_ApiValue_cells_eq : ∀ l, r_ApiValue_cells l = l.map ApiValue.cells
  | [] => by simp [r_ApiValue_cells]
  | x :: r => by simp [r_ApiValue_cells, ApiValue.cellsR_eq, r_ApiValue_cells_eq r]
structure ApiPred where
  Op : List UInt8
  L : List ApiValue
  Kids : List ApiPred
instance : Inhabited ApiPred := ⟨⟨default, [], []⟩⟩
mutual
def ApiPred.cellsR : ApiPred → List FW.AV
  | ⟨x0, x1, x2⟩ => [.lit (.string (FW.B x0)), .row (r_ApiValue_cells x1), .row (r_ApiPred_cells x2)]
def r_ApiPred_cells : List ApiPred → List (List FW.AV)
  | [] => []
  | x :: r => ApiPred.cellsR x :: r_ApiPred_cells r
end
def ApiPred.cells (x : ApiPred) : List FW.AV := [.lit (.string (FW.B x.Op)), .row (r_ApiValue_cells x.L), .row (r_ApiPred_cells x.Kids)]
theorem ApiPred.cellsR_eq (x : ApiPred) : x.cellsR = x.cells := by cases x; simp [ApiPred.cellsR, ApiPred.cells]
theorem r_ApiPred_cells_eq : ∀ l, r_ApiPred_cells l = l.map ApiPred.cells
  | [] => by simp [r_ApiPred_cells]
  | x :: r => by simp [r_ApiPred_cells, ApiPred.cellsR_eq, r_ApiPred_cells_eq r]
mutual
structure ApiArg where
  Kind : Int
  V : ApiValue
  P : ApiPred
  T : List ApiStep
structure ApiStep where
  Name : List UInt8
  Args : List ApiArg
end
instance : Inhabited ApiArg := ⟨⟨default, default, default, []⟩⟩
instance : Inhabited ApiStep := ⟨⟨default, []⟩⟩
mutual
def ApiArg.cellsR : ApiArg → List FW.AV
  | ⟨x0, x1, x2, x3⟩ => [.lit (.int .i64 x0)] ++ ApiValue.cells x1 ++ ApiPred.cells x2 ++ [.row (r_ApiStep_cells x3)]
def r_ApiArg_cells : List ApiArg → List (List FW.AV)
  | [] => []
  | x :: r => ApiArg.cellsR x :: r_ApiArg_cells r
def ApiStep.cellsR : ApiStep → List FW.AV
  | ⟨x0, x1⟩ => [.lit (.string (FW.B x0)), .row (r_ApiArg_cells x1)]
def r_ApiStep_cells : List ApiStep → List (List FW.AV)
  | [] => []
  | x :: r => ApiStep.cellsR x :: r_ApiStep_cells r
end
def ApiArg.cells (x : ApiArg) : List FW.AV := [.lit (.int .i64 x.Kind)] ++ ApiValue.cells x.V ++ ApiPred.cells x.P ++ [.row (r_ApiStep_cells x.T)]
theorem ApiArg.cellsR_eq (x : ApiArg) : x.cellsR = x.cells := by cases x; simp [ApiArg.cellsR, ApiArg.cells]
theorem r_ApiArg_cells_eq : ∀ l, r_ApiArg_cells l = l.map ApiArg.cells
  | [] => by simp [r_ApiArg_cells]
  | x :: r => by simp [r_ApiArg_cells, ApiArg.cellsR_eq, r_ApiArg_cells_eq r]
def ApiStep.cells (x : ApiStep) : List FW.AV := [.lit (.string (FW.B x.Name)), .row (r_ApiArg_cells x.Args)]
theorem ApiStep.cellsR_eq (x : ApiStep) : x.cellsR = x.cells := by cases x; simp [ApiStep.cellsR, ApiStep.cells]
theorem r_ApiStep_cells_eq : ∀ l, r_ApiStep_cells l = l.map ApiStep.cells
  | [] => by simp [r_ApiStep_cells]
  | x :: r => by simp [r_ApiStep_cells, ApiStep.cellsR_eq, r_ApiStep_cells_eq r]
def r_c_str (l : List (List UInt8)) : List (List FW.AV) := l.map c_str
theorem r_c_str_eq : ∀ l, r_c_str l = l.map c_str := fun _ => rfl
def r_c_i64 (l : List Int) : List (List FW.AV) := l.map c_i64
theorem r_c_i64_eq : ∀ l, r_c_i64 l = l.map c_i64 := fun _ => rfl
structure ApiIns where
  Op : Int
  S : List (List UInt8)
  N : List Int
  V : List ApiValue
  P : ApiPred
  Kids : List Int
  Flag : Bool
  deriving Inhabited
def ApiIns.cells (x : ApiIns) : List FW.AV := [.lit (.int .i64 x.Op)] ++ [.row (r_c_str x.S)] ++ [.row (r_c_i64 x.N)] ++ [.row (r_ApiValue_cells x.V)] ++ ApiPred.cells x.P ++ [.row (r_c_i64 x.Kids)] ++ [.lit (.bool x.Flag)]
def r_ApiIns_cells (l : List ApiIns) : List (List FW.AV) := l.map ApiIns.cells
theorem r_ApiIns_cells_eq : ∀ l, r_ApiIns_cells l = l.map ApiIns.cells := fun _ => rfl
def c_s_ApiIns_cells (x : List ApiIns) : List FW.AV := [.row (r_ApiIns_cells x)]
def r_c_s_ApiIns_cells (l : List (List ApiIns)) : List (List FW.AV) := l.map c_s_ApiIns_cells
theorem r_c_s_ApiIns_cells_eq : ∀ l, r_c_s_ApiIns_cells l = l.map c_s_ApiIns_cells := fun _ => rfl
structure ApiProg where
  Bodies : List (List ApiIns)
  deriving Inhabited
def ApiProg.cells (x : ApiProg) : List FW.AV := [.row (r_c_s_ApiIns_cells x.Bodies)]
structure ApiWord where
  Kind : Int
  S : List UInt8
  N : Int
  F : Nat
  At : Int
  deriving Inhabited
def ApiWord.cells (x : ApiWord) : List FW.AV := [.lit (.int .i64 x.Kind), .lit (.string (FW.B x.S)), .lit (.int .i64 x.N), .lit (.float .f64 x.F), .lit (.int .i64 x.At)]
def r_ApiWord_cells (l : List ApiWord) : List (List FW.AV) := l.map ApiWord.cells
theorem r_ApiWord_cells_eq : ∀ l, r_ApiWord_cells l = l.map ApiWord.cells := fun _ => rfl
structure St12 where
  L : List ApiWord
  I : Int
  Deep : Int
  Steps : Int
  At : Int
  E : Int
  deriving Inhabited
def St12.cells (x : St12) : List FW.AV := [.row (r_ApiWord_cells x.L), .lit (.int .i64 x.I), .lit (.int .i64 x.Deep), .lit (.int .i64 x.Steps), .lit (.int .i64 x.At), .lit (.int .i64 x.E)]
def r_c_u8 (l : List Int) : List (List FW.AV) := l.map c_u8
theorem r_c_u8_eq : ∀ l, r_c_u8 l = l.map c_u8 := fun _ => rfl
structure OVarcstr_9 where
  v : List UInt8
  deriving Inhabited
abbrev OVarcstr_9.items (b : Nat) (x : OVarcstr_9) : List FW.It := [FW.blk b 9 [.lit (.string (FW.B x.v))]]
abbrev OVarApiStep := ApiStep
abbrev OVarApiStep.items (b : Nat) (x : OVarApiStep) : List FW.It := [FW.blk b 29 (ApiStep.cells x)]
structure OCM where
  out : List (List ApiIns)
  deriving Inhabited
abbrev OCM.items (b : Nat) (xd_0 : Option Addr) (xc_0 : Nat) (x : OCM) : List FW.It := [FW.blk b 93 [.lit (.slice xd_0 (List.length x.out) xc_0)], FW.orow xd_0 xc_0 55 1 c_s_ApiIns_cells x.out]
abbrev Y1 := OCM → List ApiStep → Option (Int × OCM)
abbrev Y2 := OCM → ApiStep → List ApiStep → Option (ApiIns × OCM)
abbrev Y3 := OCM → List ApiArg → Option (List Int × OCM)
abbrev Y5 := OCM → List ApiStep → Int → Option (List Int × OCM)
abbrev Y6 := OCM → ApiStep → Option (Int × OCM)
abbrev Y7 := OCM → List ApiStep → Option (ApiIns × OCM)
abbrev Y8 := St12 → Option (St12 × ApiValue × Bool)
abbrev Y9 := St12 → List UInt8 → Option (St12 × List ApiValue)
abbrev Y10 := St12 → Option (St12 × List ApiStep)
abbrev Y11 := St12 → Option (St12 × ApiArg)
abbrev Y12 := St12 → Option (St12 × ApiPred)
def r11_digit.f  (v0 : Int) : Option Int :=
  (if ((decide (48 ≤ v0)) && (decide (v0 ≤ 57))) = true then some ((IntKind.wrap .i64 ((IntKind.wrap .i64 v0) - 48))) else (if ((decide (97 ≤ v0)) && (decide (v0 ≤ 102))) = true then some ((IntKind.wrap .i64 ((IntKind.wrap .i64 ((IntKind.wrap .i64 v0) - 97)) + 10))) else some (16)))

def r11_Quoted.l1 (K : Nat) : Nat → List Int → List UInt8 → Int → Option (List UInt8 × Int)
  | 0, _, _, _ => none
  | kl1 + 1, l1, v0, v5 => (if (decide (v5 < (List.length v0 : Int))) = true then (if ((0 : Int) ≤ v5 ∧ v5 < (List.length v0 : Int)) then (if (decide ((FW.bt v0 v5) = 39)) = true then some ((FW.toB l1), (IntKind.wrap .i64 (v5 + 1))) else (if ((decide ((FW.bt v0 v5) < 32)) || (decide (126 < (FW.bt v0 v5)))) = true then some (([] : List UInt8), 0) else (if (!decide ((FW.bt v0 v5) = 92)) = true then (if ((List.length l1 + List.length ([(FW.bt v0 v5)] : List Int)) * 1 ≤ 140737488355328 ∧ List.length l1 + List.length ([(FW.bt v0 v5)] : List Int) ≤ 140737488355328) then r11_Quoted.l1 K kl1 (l1 ++ ([(FW.bt v0 v5)] : List Int)) v0 (IntKind.wrap .i64 (v5 + 1)) else none) else (if (decide ((IntKind.wrap .i64 (v5 + 1)) < (List.length v0 : Int))) = true → ((0 : Int) ≤ (IntKind.wrap .i64 (v5 + 1)) ∧ (IntKind.wrap .i64 (v5 + 1)) < (List.length v0 : Int)) then (if (decide ((FW.bt v0 (IntKind.wrap .i64 (v5 + 1))) = 39)) = false → (decide ((IntKind.wrap .i64 (v5 + 1)) < (List.length v0 : Int))) = true → ((0 : Int) ≤ (IntKind.wrap .i64 (v5 + 1)) ∧ (IntKind.wrap .i64 (v5 + 1)) < (List.length v0 : Int)) then (if ((decide ((IntKind.wrap .i64 (v5 + 1)) < (List.length v0 : Int))) && ((decide ((FW.bt v0 (IntKind.wrap .i64 (v5 + 1))) = 39)) || (decide ((FW.bt v0 (IntKind.wrap .i64 (v5 + 1))) = 92)))) = true then (if ((0 : Int) ≤ (IntKind.wrap .i64 (v5 + 1)) ∧ (IntKind.wrap .i64 (v5 + 1)) < (List.length v0 : Int)) then (if ((List.length l1 + List.length ([(FW.bt v0 (IntKind.wrap .i64 (v5 + 1)))] : List Int)) * 1 ≤ 140737488355328 ∧ List.length l1 + List.length ([(FW.bt v0 (IntKind.wrap .i64 (v5 + 1)))] : List Int) ≤ 140737488355328) then r11_Quoted.l1 K kl1 (l1 ++ ([(FW.bt v0 (IntKind.wrap .i64 (v5 + 1)))] : List Int)) v0 (IntKind.wrap .i64 (v5 + 2)) else none) else none) else (if (decide ((List.length v0 : Int) ≤ (IntKind.wrap .i64 (v5 + 3)))) = false → ((0 : Int) ≤ (IntKind.wrap .i64 (v5 + 1)) ∧ (IntKind.wrap .i64 (v5 + 1)) < (List.length v0 : Int)) then (if ((decide ((List.length v0 : Int) ≤ (IntKind.wrap .i64 (v5 + 3)))) || (!decide ((FW.bt v0 (IntKind.wrap .i64 (v5 + 1))) = 120))) = false → ((0 : Int) ≤ (IntKind.wrap .i64 (v5 + 2)) ∧ (IntKind.wrap .i64 (v5 + 2)) < (List.length v0 : Int)) then (Option.bind (if ((decide ((List.length v0 : Int) ≤ (IntKind.wrap .i64 (v5 + 3)))) || (!decide ((FW.bt v0 (IntKind.wrap .i64 (v5 + 1))) = 120))) = false then r11_digit.f (FW.bt v0 (IntKind.wrap .i64 (v5 + 2))) else some default) fun t1 => (if (((decide ((List.length v0 : Int) ≤ (IntKind.wrap .i64 (v5 + 3)))) || (!decide ((FW.bt v0 (IntKind.wrap .i64 (v5 + 1))) = 120))) || (decide (15 < t1))) = false → ((0 : Int) ≤ (IntKind.wrap .i64 (v5 + 3)) ∧ (IntKind.wrap .i64 (v5 + 3)) < (List.length v0 : Int)) then (Option.bind (if (((decide ((List.length v0 : Int) ≤ (IntKind.wrap .i64 (v5 + 3)))) || (!decide ((FW.bt v0 (IntKind.wrap .i64 (v5 + 1))) = 120))) || (decide (15 < t1))) = false then r11_digit.f (FW.bt v0 (IntKind.wrap .i64 (v5 + 3))) else some default) fun t2 => (if ((((decide ((List.length v0 : Int) ≤ (IntKind.wrap .i64 (v5 + 3)))) || (!decide ((FW.bt v0 (IntKind.wrap .i64 (v5 + 1))) = 120))) || (decide (15 < t1))) || (decide (15 < t2))) = true then some (([] : List UInt8), 0) else (if ((0 : Int) ≤ (IntKind.wrap .i64 (v5 + 2)) ∧ (IntKind.wrap .i64 (v5 + 2)) < (List.length v0 : Int)) then (Option.bind (r11_digit.f (FW.bt v0 (IntKind.wrap .i64 (v5 + 2)))) fun t3 => (if ((0 : Int) ≤ (IntKind.wrap .i64 (v5 + 3)) ∧ (IntKind.wrap .i64 (v5 + 3)) < (List.length v0 : Int)) then (Option.bind (r11_digit.f (FW.bt v0 (IntKind.wrap .i64 (v5 + 3)))) fun t4 => (if ((List.length l1 + List.length ([(IntKind.wrap .u8 (IntKind.wrap .i64 ((IntKind.wrap .i64 (16 * t3)) + t4)))] : List Int)) * 1 ≤ 140737488355328 ∧ List.length l1 + List.length ([(IntKind.wrap .u8 (IntKind.wrap .i64 ((IntKind.wrap .i64 (16 * t3)) + t4)))] : List Int) ≤ 140737488355328) then r11_Quoted.l1 K kl1 (l1 ++ ([(IntKind.wrap .u8 (IntKind.wrap .i64 ((IntKind.wrap .i64 (16 * t3)) + t4)))] : List Int)) v0 (IntKind.wrap .i64 (v5 + 4)) else none)) else none)) else none))) else none)) else none) else none)) else none) else none)))) else none) else some (([] : List UInt8), 0))
def r11_Quoted.f (K : Nat) (v0 : List UInt8) : Option (List UInt8 × Int) :=
  (if (decide (v0 = ([] : List UInt8))) = false → ((0 : Int) ≤ 0 ∧ 0 < (List.length v0 : Int)) then (if ((decide (v0 = ([] : List UInt8))) || (!decide ((FW.bt v0 0) = 39))) = true then some (([] : List UInt8), 0) else r11_Quoted.l1 K K ([] : List Int) v0 1) else none)

def r01_Canon.f  (v0 : Nat) : Option Int :=
  (if (FW.fneq v0 v0) = true then some (9221120237041090561) else some (((v0 : Nat) : Int)))

def r11_Int.l1 (K : Nat) : Nat → Bool → List UInt8 → Int → Int → Option (Int × Bool)
  | 0, _, _, _, _ => none
  | kl1 + 1, v4, v5, v6, v7 => (if (decide (v7 < (List.length v5 : Int))) = true then (if ((0 : Int) ≤ v7 ∧ v7 < (List.length v5 : Int)) then (if (decide ((FW.bt v5 v7) < 48)) = false → ((0 : Int) ≤ v7 ∧ v7 < (List.length v5 : Int)) then (if ((decide ((FW.bt v5 v7) < 48)) || (decide (57 < (FW.bt v5 v7)))) = true then some (0, false) else (if ((0 : Int) ≤ v7 ∧ v7 < (List.length v5 : Int)) then r11_Int.l1 K kl1 v4 v5 (IntKind.wrap .u64 ((IntKind.wrap .u64 ((IntKind.wrap .u64 (v6 * 10)) + (IntKind.wrap .u64 (FW.bt v5 v7)))) - 48)) (IntKind.wrap .i64 (v7 + 1)) else none)) else none) else none) else (if (v4 && (decide (v6 ≤ 9223372036854775808))) = true then some ((IntKind.wrap .i64 (IntKind.wrap .u64 (0 - v6))), true) else (if ((!v4) && (decide (v6 < 9223372036854775808))) = true then some ((IntKind.wrap .i64 v6), true) else some (0, false))))
def r11_Int.j1 (K : Nat) (v4 : Bool) (v5 : List UInt8) : Option (Int × Bool) :=
  (if ((decide (v5 = ([] : List UInt8))) || (decide (19 < (List.length v5 : Int)))) = false → ((0 : Int) ≤ 0 ∧ 0 < (List.length v5 : Int)) then (if (((decide (v5 = ([] : List UInt8))) || (decide (19 < (List.length v5 : Int)))) || ((decide ((FW.bt v5 0) = 48)) && ((decide (1 < (List.length v5 : Int))) || v4))) = true then some (0, false) else r11_Int.l1 K K v4 v5 0 0) else none)
def r11_Int.f (K : Nat) (v0 : List UInt8) : Option (Int × Bool) :=
  (if (!decide (v0 = ([] : List UInt8))) = true → ((0 : Int) ≤ 0 ∧ 0 < (List.length v0 : Int)) then (if ((!decide (v0 = ([] : List UInt8))) && (decide ((FW.bt v0 0) = 45))) = true then (if ((0 : Int) ≤ 1 ∧ 1 ≤ (List.length v0 : Int)) then r11_Int.j1 K ((!decide (v0 = ([] : List UInt8))) && (decide ((FW.bt v0 0) = 45))) (List.drop (Int.toNat 1) v0) else none) else r11_Int.j1 K ((!decide (v0 = ([] : List UInt8))) && (decide ((FW.bt v0 0) = 45))) v0) else none)

def r11_letter.f  (v0 : Int) : Option Bool :=
  some (((((decide (v0 = 95)) || ((decide (97 ≤ v0)) && (decide (v0 ≤ 122)))) || ((decide (65 ≤ v0)) && (decide (v0 ≤ 90)))) || ((decide (48 ≤ v0)) && (decide (v0 ≤ 57)))))

def r11_one.l1 (K : Nat) : Nat → List UInt8 → Int → Int → Bool → Int → Option (ApiWord × Int)
  | 0, _, _, _, _, _ => none
  | kl1 + 1, v5, v6, v7, v8, v9 => (if ((decide (v9 < (List.length v5 : Int))) && v8) = true then (if ((0 : Int) ≤ v9 ∧ v9 < (List.length v5 : Int)) then (Option.bind (r11_digit.f (FW.bt v5 v9)) fun t2 => (if ((0 : Int) ≤ v9 ∧ v9 < (List.length v5 : Int)) then (Option.bind (r11_digit.f (FW.bt v5 v9)) fun t3 => r11_one.l1 K kl1 v5 v6 (IntKind.wrap .u64 ((IntKind.wrap .u64 (v7 * 16)) + (IntKind.wrap .u64 t3))) (decide (t2 < 16)) (IntKind.wrap .i64 (v9 + 1))) else none)) else none) else (Option.bind (if (!v8) = false then r01_Canon.f (Int.toNat v7) else some default) fun t4 => (if ((!v8) || (!decide (t4 = v7))) = true then some ((⟨0, [], 0, 0, 0⟩ : ApiWord), 0) else some ((⟨3, [], 0, (Int.toNat v7), 0⟩ : ApiWord), (IntKind.wrap .i64 (v6 + 1))))))
def r11_one.l2 (K : Nat) : Nat → List UInt8 → Int → Option (ApiWord × Int)
  | 0, _, _ => none
  | kl2 + 1, v0, v13 => (if (decide (v13 < (List.length v0 : Int))) = true → ((0 : Int) ≤ v13 ∧ v13 < (List.length v0 : Int)) then (if ((decide (v13 < (List.length v0 : Int))) && (decide (48 ≤ (FW.bt v0 v13)))) = true → ((0 : Int) ≤ v13 ∧ v13 < (List.length v0 : Int)) then (if (((decide (v13 < (List.length v0 : Int))) && (decide (48 ≤ (FW.bt v0 v13)))) && (decide ((FW.bt v0 v13) ≤ 57))) = true then r11_one.l2 K kl2 v0 (IntKind.wrap .i64 (v13 + 1)) else (if ((0 : Int) ≤ v13 ∧ v13 ≤ (List.length v0 : Int)) then (Option.bind (r11_Int.f K (List.take (Int.toNat v13) v0)) fun t6 => (if (!t6.2) = true then some ((⟨0, [], 0, 0, 0⟩ : ApiWord), 0) else some ((⟨2, [], t6.1, 0, 0⟩ : ApiWord), v13))) else none)) else none) else none)
def r11_one.l3 (K : Nat) : Nat → List UInt8 → Int → Option (ApiWord × Int)
  | 0, _, _ => none
  | kl3 + 1, v0, v16 => (if (decide (v16 < (List.length v0 : Int))) = true → ((0 : Int) ≤ v16 ∧ v16 < (List.length v0 : Int)) then (Option.bind (if (decide (v16 < (List.length v0 : Int))) = true then r11_letter.f (FW.bt v0 v16) else some default) fun t8 => (if ((decide (v16 < (List.length v0 : Int))) && t8) = true then r11_one.l3 K kl3 v0 (IntKind.wrap .i64 (v16 + 1)) else (if (decide (16 < v16)) = true then some ((⟨0, [], 0, 0, 0⟩ : ApiWord), 0) else (if ((0 : Int) ≤ v16 ∧ v16 ≤ (List.length v0 : Int)) then some ((⟨1, (List.take (Int.toNat v16) v0), 0, 0, 0⟩ : ApiWord), v16) else none)))) else none)
def r11_one.f (K : Nat) (v0 : List UInt8) : Option (ApiWord × Int) :=
  (if ((0 : Int) ≤ 0 ∧ 0 < (List.length v0 : Int)) then (if ((decide ((FW.bt v0 0) = 102)) && (decide (1 < (List.length v0 : Int)))) = true → ((0 : Int) ≤ 1 ∧ 1 < (List.length v0 : Int)) then (if (((decide ((FW.bt v0 0) = 102)) && (decide (1 < (List.length v0 : Int)))) && (decide ((FW.bt v0 1) = 39))) = true then (if ((0 : Int) ≤ 1 ∧ 1 ≤ (List.length v0 : Int)) then (Option.bind (r11_Quoted.f K (List.drop (Int.toNat 1) v0)) fun t1 => r11_one.l1 K K t1.1 t1.2 0 ((decide (0 < t1.2)) && (decide ((List.length t1.1 : Int) = 16))) 0) else none) else (if (decide ((FW.bt v0 0) = 39)) = true then (Option.bind (r11_Quoted.f K v0) fun t5 => (if (decide (500 < (List.length t5.1 : Int))) = true then some ((⟨0, [], 0, 0, 0⟩ : ApiWord), 0) else some ((⟨4, t5.1, 0, 0, 0⟩ : ApiWord), t5.2))) else (if ((decide ((FW.bt v0 0) = 45)) || ((decide (48 ≤ (FW.bt v0 0))) && (decide ((FW.bt v0 0) ≤ 57)))) = true then r11_one.l2 K K v0 1 else (Option.bind (r11_letter.f (FW.bt v0 0)) fun t7 => (if t7 = true then r11_one.l3 K K v0 1 else (if ((((((decide ((FW.bt v0 0) = 46)) || (decide ((FW.bt v0 0) = 40))) || (decide ((FW.bt v0 0) = 41))) || (decide ((FW.bt v0 0) = 44))) || (decide ((FW.bt v0 0) = 91))) || (decide ((FW.bt v0 0) = 93))) = true then (if ((0 : Int) ≤ 1 ∧ 1 ≤ (List.length v0 : Int)) then some ((⟨5, (List.take (Int.toNat 1) v0), 0, 0, 0⟩ : ApiWord), 1) else none) else some ((⟨0, [], 0, 0, 0⟩ : ApiWord), 0))))))) else none) else none)

def r11_Words.l1 (K : Nat) : Nat → List ApiWord → List UInt8 → Int → Option (List ApiWord × Int × Int)
  | 0, _, _, _ => none
  | kl1 + 1, l1, v0, v6 => (if (decide (v6 < (List.length v0 : Int))) = true then (if ((0 : Int) ≤ v6 ∧ v6 < (List.length v0 : Int)) then (if (decide ((FW.bt v0 v6) = 32)) = true then r11_Words.l1 K kl1 l1 v0 (IntKind.wrap .i64 (v6 + 1)) else (if ((0 : Int) ≤ v6 ∧ v6 ≤ (List.length v0 : Int)) then (Option.bind (r11_one.f K (List.drop (Int.toNat v6) v0)) fun t1 => (if (decide (t1.2 = 0)) = true then some ([], v6, 110) else (if (decide ((List.length l1 : Int) = 1500)) = true then some ([], v6, 3) else (if ((List.length l1 + List.length ([(⟨t1.1.Kind, t1.1.S, t1.1.N, t1.1.F, v6⟩ : ApiWord)] : List ApiWord)) * 48 ≤ 140737488355328 ∧ List.length l1 + List.length ([(⟨t1.1.Kind, t1.1.S, t1.1.N, t1.1.F, v6⟩ : ApiWord)] : List ApiWord) ≤ 140737488355328) then r11_Words.l1 K kl1 (l1 ++ ([(⟨t1.1.Kind, t1.1.S, t1.1.N, t1.1.F, v6⟩ : ApiWord)] : List ApiWord)) v0 (IntKind.wrap .i64 (v6 + t1.2)) else none)))) else none)) else none) else (if ((List.length l1 + List.length ([(⟨0, [], 0, 0, (List.length v0 : Int)⟩ : ApiWord)] : List ApiWord)) * 48 ≤ 140737488355328 ∧ List.length l1 + List.length ([(⟨0, [], 0, 0, (List.length v0 : Int)⟩ : ApiWord)] : List ApiWord) ≤ 140737488355328) then some ((l1 ++ ([(⟨0, [], 0, 0, (List.length v0 : Int)⟩ : ApiWord)] : List ApiWord)), 0, 0) else none))
def r11_Words.f (K : Nat) (v0 : List UInt8) : Option (List ApiWord × Int × Int) :=
  (if (decide (3000 < (List.length v0 : Int))) = true then some ([], 3000, 3) else r11_Words.l1 K K ([] : List ApiWord) v0 0)

def p12_is.f  (v0 : St12) (v1 : List UInt8) : Option Bool :=
  (if (decide (v0.E = 0)) = true → ((0 : Int) ≤ v0.I ∧ v0.I < (List.length v0.L : Int)) then (if ((decide (v0.E = 0)) && (decide (((List.getD v0.L (Int.toNat v0.I) default).Kind) = 5))) = true → ((0 : Int) ≤ v0.I ∧ v0.I < (List.length v0.L : Int)) then some ((((decide (v0.E = 0)) && (decide (((List.getD v0.L (Int.toNat v0.I) default).Kind) = 5))) && (decide (((List.getD v0.L (Int.toNat v0.I) default).S) = v1)))) else none) else none)

def p12_fail.j1  (y1 : St12) : Option St12 :=
  some (y1)
def p12_fail.f  (v0 : St12) (v1 : Int) : Option St12 :=
  (if (decide (v0.E = 0)) = true then (if ((0 : Int) ≤ v0.I ∧ v0.I < (List.length v0.L : Int)) then p12_fail.j1 (⟨v0.L, v0.I, v0.Deep, v0.Steps, (List.getD v0.L (Int.toNat v0.I) default).At, v1⟩ : St12) else none) else p12_fail.j1 v0)

def p12_sign.f  (v0 : St12) (v1 : List UInt8) : Option St12 :=
  (if (!decide (v0.E = 0)) = true then some (v0) else (Option.bind (p12_is.f v0 v1) fun t1 => (if (!t1) = true then (Option.bind (p12_fail.f v0 120) fun t2 => some (t2)) else some ((⟨v0.L, (IntKind.wrap .i64 (v0.I + 1)), v0.Deep, v0.Steps, v0.At, v0.E⟩ : St12)))))

def p12_into.f  (v0 : St12) : Option St12 :=
  (if (!decide (v0.E = 0)) = true then some (v0) else (if (decide (12 ≤ v0.Deep)) = true then (Option.bind (p12_fail.f v0 3) fun t1 => some (t1)) else some ((⟨v0.L, v0.I, (IntKind.wrap .i64 (v0.Deep + 1)), v0.Steps, v0.At, v0.E⟩ : St12))))

def p12_value.j2 (zv : Y8) (zvs : Y9) (K : Nat) (y5 : ApiValue) (y1 : St12) (v7 : Bool) : Option (St12 × ApiValue × Bool) :=
  some (y1, y5, v7)
def p12_value.j1 (zv : Y8) (zvs : Y9) (K : Nat) (y5 : ApiValue) (y1 : St12) (v7 : Bool) : Option (St12 × ApiValue × Bool) :=
  (if v7 = true then p12_value.j2 zv zvs K y5 (⟨y1.L, (IntKind.wrap .i64 (y1.I + 1)), y1.Deep, y1.Steps, y1.At, y1.E⟩ : St12) v7 else p12_value.j2 zv zvs K y5 y1 v7)
def p12_value.b (zv : Y8) (zvs : Y9) (K : Nat) (v0 : St12) : Option (St12 × ApiValue × Bool) :=
  (if (!decide (v0.E = 0)) = true then some (v0, (⟨0, false, 0, 0, [], []⟩ : ApiValue), false) else (if ((0 : Int) ≤ v0.I ∧ v0.I < (List.length v0.L : Int)) then (if (decide (((List.getD v0.L (Int.toNat v0.I) default).Kind) = 2)) = true then p12_value.j1 zv zvs K (⟨2, false, (List.getD v0.L (Int.toNat v0.I) default).N, 0, [], []⟩ : ApiValue) v0 true else (if (decide (((List.getD v0.L (Int.toNat v0.I) default).Kind) = 3)) = true then p12_value.j1 zv zvs K (⟨3, false, 0, (List.getD v0.L (Int.toNat v0.I) default).F, [], []⟩ : ApiValue) v0 true else (if (decide (((List.getD v0.L (Int.toNat v0.I) default).Kind) = 4)) = true then p12_value.j1 zv zvs K (⟨4, false, 0, 0, (List.getD v0.L (Int.toNat v0.I) default).S, []⟩ : ApiValue) v0 true else (if ((decide (((List.getD v0.L (Int.toNat v0.I) default).Kind) = 1)) && (decide (((List.getD v0.L (Int.toNat v0.I) default).S) = ([116, 114, 117, 101] : List UInt8)))) = true then p12_value.j1 zv zvs K (⟨1, true, 0, 0, [], []⟩ : ApiValue) v0 true else (if ((decide (((List.getD v0.L (Int.toNat v0.I) default).Kind) = 1)) && (decide (((List.getD v0.L (Int.toNat v0.I) default).S) = ([102, 97, 108, 115, 101] : List UInt8)))) = true then p12_value.j1 zv zvs K (⟨1, false, 0, 0, [], []⟩ : ApiValue) v0 true else (if ((decide (((List.getD v0.L (Int.toNat v0.I) default).Kind) = 1)) && (decide (((List.getD v0.L (Int.toNat v0.I) default).S) = ([110, 117, 108, 108] : List UInt8)))) = true then p12_value.j1 zv zvs K (⟨0, false, 0, 0, [], []⟩ : ApiValue) v0 true else (Option.bind (p12_is.f v0 ([91] : List UInt8)) fun t1 => (if t1 = true then (Option.bind (p12_into.f (⟨v0.L, (IntKind.wrap .i64 (v0.I + 1)), v0.Deep, v0.Steps, v0.At, v0.E⟩ : St12)) fun t2 => (Option.bind (zvs t2 ([93] : List UInt8)) fun t3 => some ((⟨t3.1.L, t3.1.I, v0.Deep, t3.1.Steps, t3.1.At, t3.1.E⟩ : St12), (⟨5, false, 0, 0, [], t3.2⟩ : ApiValue), (decide (t3.1.E = 0))))) else p12_value.j1 zv zvs K (⟨0, false, 0, 0, [], []⟩ : ApiValue) v0 false)))))))) else none))
def p12_values.j3 (zv : Y8) (zvs : Y9) (s_l1 : List ApiValue → St12 → List UInt8 → Option (St12 × List ApiValue)) (K : Nat) (l3 : List ApiValue) (y5 : ApiValue) (y1 : St12) (v1 : List UInt8) : Option (St12 × List ApiValue) :=
  (if ((List.length l3 + List.length ([y5] : List ApiValue)) * 72 ≤ 140737488355328 ∧ List.length l3 + List.length ([y5] : List ApiValue) ≤ 140737488355328) then s_l1 (l3 ++ ([y5] : List ApiValue)) y1 v1 else none)
def p12_values.j2 (zv : Y8) (zvs : Y9) (s_l1 : List ApiValue → St12 → List UInt8 → Option (St12 × List ApiValue)) (K : Nat) (l3 : List ApiValue) (y1 : St12) (v1 : List UInt8) : Option (St12 × List ApiValue) :=
  (Option.bind (zv y1) fun t2 => (if (!t2.2.2) = true then (Option.bind (p12_fail.f t2.1 120) fun t3 => p12_values.j3 zv zvs s_l1 K l3 t2.2.1 t3 v1) else p12_values.j3 zv zvs s_l1 K l3 t2.2.1 t2.1 v1))
def p12_values.j1 (zv : Y8) (zvs : Y9) (s_l1 : List ApiValue → St12 → List UInt8 → Option (St12 × List ApiValue)) (K : Nat) (l3 : List ApiValue) (y1 : St12) (v1 : List UInt8) : Option (St12 × List ApiValue) :=
  (if (decide (12 ≤ (List.length l3 : Int))) = true then (Option.bind (p12_fail.f y1 3) fun t4 => p12_values.j2 zv zvs s_l1 K l3 t4 v1) else p12_values.j2 zv zvs s_l1 K l3 y1 v1)
def p12_values.l1 (zv : Y8) (zvs : Y9) (K : Nat) : Nat → List ApiValue → St12 → List UInt8 → Option (St12 × List ApiValue)
  | 0, _, _, _ => none
  | kl1 + 1, l3, y1, v1 => (Option.bind (if (decide (y1.E = 0)) = true then p12_is.f y1 v1 else some default) fun t1 => (if ((decide (y1.E = 0)) && (!t1)) = true then (if (decide (0 < (List.length l3 : Int))) = true then (Option.bind (p12_sign.f y1 ([44] : List UInt8)) fun t5 => p12_values.j1 zv zvs (p12_values.l1 zv zvs K kl1) K l3 t5 v1) else p12_values.j1 zv zvs (p12_values.l1 zv zvs K kl1) K l3 y1 v1) else (Option.bind (p12_sign.f y1 v1) fun t6 => some (t6, l3))))
def p12_values.b (zv : Y8) (zvs : Y9) (K : Nat) (v0 : St12) (v1 : List UInt8) : Option (St12 × List ApiValue) :=
  p12_values.l1 zv zvs K K ([] : List ApiValue) v0 v1
mutual
def p12_value.f : Nat → St12 → Option (St12 × ApiValue × Bool)
  | 0, _ => none
  | K + 1, v0 => p12_value.b (p12_value.f K) (p12_values.f K) K v0
def p12_values.f : Nat → St12 → List UInt8 → Option (St12 × List ApiValue)
  | 0, _, _ => none
  | K + 1, v0, v1 => p12_values.b (p12_value.f K) (p12_values.f K) K v0 v1
end

def r12_Preds.l1 (K : Nat) : Nat → List UInt8 → List (List UInt8) → Int → Option (Int × Bool)
  | 0, _, _, _ => none
  | kl1 + 1, v0, v4, v5 => (if (decide (v5 < (List.length v4 : Int))) = true then (if ((0 : Int) ≤ v5 ∧ v5 < (List.length v4 : Int)) then (if (decide ((List.getD v4 (Int.toNat v5) default) = v0)) = true then some (1, true) else r12_Preds.l1 K kl1 v0 v4 (IntKind.wrap .i64 (v5 + 1))) else none) else (if (((decide (v0 = ([98, 101, 116, 119, 101, 101, 110] : List UInt8))) || (decide (v0 = ([105, 110, 115, 105, 100, 101] : List UInt8)))) || (decide (v0 = ([111, 117, 116, 115, 105, 100, 101] : List UInt8)))) = true then some (2, true) else some ((-1), ((decide (v0 = ([119, 105, 116, 104, 105, 110] : List UInt8))) || (decide (v0 = ([119, 105, 116, 104, 111, 117, 116] : List UInt8)))))))
def r12_Preds.f (K : Nat) (v0 : List UInt8) : Option (Int × Bool) :=
  r12_Preds.l1 K K v0 ([([101, 113] : List UInt8), ([110, 101, 113] : List UInt8), ([108, 116] : List UInt8), ([108, 116, 101] : List UInt8), ([103, 116] : List UInt8), ([103, 116, 101] : List UInt8), ([115, 116, 97, 114, 116, 105, 110, 103, 87, 105, 116, 104] : List UInt8), ([101, 110, 100, 105, 110, 103, 87, 105, 116, 104] : List UInt8), ([99, 111, 110, 116, 97, 105, 110, 105, 110, 103] : List UInt8)] : List (List UInt8)) 0

def p12_pred.j1 (zpr : Y12) (K : Nat) (y5 : ApiPred) (y4 : St12) (y1 : St12) : Option (St12 × ApiPred) :=
  some ((⟨y1.L, y1.I, y4.Deep, y1.Steps, y1.At, y1.E⟩ : St12), y5)
def p12_pred.j3 (zpr : Y12) (s_l1 : ApiPred → St12 → St12 → Option (St12 × ApiPred)) (K : Nat) (y4 : St12) (y5 : ApiPred) (y1 : St12) : Option (St12 × ApiPred) :=
  (Option.bind (p12_sign.f y1 ([41] : List UInt8)) fun t11 => s_l1 y5 y4 t11)
def p12_pred.j4 (zpr : Y12) (s_l1 : ApiPred → St12 → St12 → Option (St12 × ApiPred)) (K : Nat) (y4 : St12) (y5 : ApiPred) (y6 : St12) (y1 : St12) (v9 : List UInt8) (v127 : List UInt8) (v133 : Bool) : Option (St12 × ApiPred) :=
  (if v133 = true then (if (decide (y1.E = 0)) = true then (Option.bind (zpr y1) fun t12 => p12_pred.j3 zpr s_l1 K y4 (⟨v9, [], ([y5, t12.2] : List ApiPred)⟩ : ApiPred) (⟨t12.1.L, t12.1.I, y1.Deep, t12.1.Steps, t12.1.At, t12.1.E⟩ : St12)) else p12_pred.j3 zpr s_l1 K y4 y5 y1) else (if (decide (v127 = ([110, 101, 103, 97, 116, 101] : List UInt8))) = true then p12_pred.j3 zpr s_l1 K y4 (⟨([110, 111, 116] : List UInt8), [], ([y5] : List ApiPred)⟩ : ApiPred) y1 else (if (decide (y1.E = 0)) = true then (Option.bind (p12_fail.f y6 120) fun t13 => p12_pred.j3 zpr s_l1 K y4 y5 t13) else p12_pred.j3 zpr s_l1 K y4 y5 y1)))
def p12_pred.j2 (zpr : Y12) (s_l1 : ApiPred → St12 → St12 → Option (St12 × ApiPred)) (K : Nat) (y4 : St12) (y5 : ApiPred) (y6 : St12) (y1 : St12) : Option (St12 × ApiPred) :=
  (if (!decide (y1.E = 0)) = true then p12_pred.j1 zpr K y5 y4 y1 else (if ((0 : Int) ≤ y1.I ∧ y1.I < (List.length y1.L : Int)) then (Option.bind (p12_sign.f (⟨y1.L, (IntKind.wrap .i64 (y1.I + 1)), y1.Deep, y1.Steps, y1.At, y1.E⟩ : St12) ([40] : List UInt8)) fun t10 => (if (decide (((List.getD y1.L (Int.toNat y1.I) default).S) = ([97, 110, 100] : List UInt8))) = true then p12_pred.j4 zpr s_l1 K y4 y5 y6 t10 ((List.getD y1.L (Int.toNat y1.I) default).S) ((List.getD y1.L (Int.toNat y1.I) default).S) (decide (((List.getD y1.L (Int.toNat y1.I) default).S) = ([97, 110, 100] : List UInt8))) else p12_pred.j4 zpr s_l1 K y4 y5 y6 t10 ((List.getD y1.L (Int.toNat y1.I) default).S) ((List.getD y1.L (Int.toNat y1.I) default).S) (decide (((List.getD y1.L (Int.toNat y1.I) default).S) = ([111, 114] : List UInt8))))) else none))
def p12_pred.l1 (zpr : Y12) (K : Nat) : Nat → ApiPred → St12 → St12 → Option (St12 × ApiPred)
  | 0, _, _, _ => none
  | kl1 + 1, y5, y4, y1 => (Option.bind (p12_is.f y1 ([46] : List UInt8)) fun t8 => (if t8 = true then (Option.bind (p12_into.f (⟨y1.L, (IntKind.wrap .i64 (y1.I + 1)), y1.Deep, y1.Steps, y1.At, y1.E⟩ : St12)) fun t9 => (if (decide (t9.E = 0)) = true → ((0 : Int) ≤ t9.I ∧ t9.I < (List.length t9.L : Int)) then (if ((decide (t9.E = 0)) && (!decide (((List.getD t9.L (Int.toNat t9.I) default).Kind) = 1))) = true then (Option.bind (p12_fail.f t9 120) fun t14 => p12_pred.j2 zpr (p12_pred.l1 zpr K kl1) K y4 y5 t9 t14) else p12_pred.j2 zpr (p12_pred.l1 zpr K kl1) K y4 y5 t9 t9) else none)) else p12_pred.j1 zpr K y5 y4 y1))
def p12_pred.b (zpr : Y12) (K : Nat) (v0 : St12) : Option (St12 × ApiPred) :=
  (if (!decide (v0.E = 0)) = false → ((0 : Int) ≤ v0.I ∧ v0.I < (List.length v0.L : Int)) then (if ((!decide (v0.E = 0)) || (!decide (((List.getD v0.L (Int.toNat v0.I) default).Kind) = 1))) = true then (Option.bind (p12_fail.f v0 120) fun t1 => some (t1, (⟨[], [], []⟩ : ApiPred))) else (if ((0 : Int) ≤ v0.I ∧ v0.I < (List.length v0.L : Int)) then (Option.bind (r12_Preds.f K ((List.getD v0.L (Int.toNat v0.I) default).S)) fun t2 => (if (!t2.2) = true then (Option.bind (p12_fail.f v0 120) fun t3 => some (t3, (⟨[], [], []⟩ : ApiPred))) else (if ((0 : Int) ≤ v0.I ∧ v0.I < (List.length v0.L : Int)) then (Option.bind (p12_sign.f (⟨v0.L, (IntKind.wrap .i64 (v0.I + 1)), v0.Deep, v0.Steps, v0.At, v0.E⟩ : St12) ([40] : List UInt8)) fun t4 => (Option.bind (p12_into.f t4) fun t5 => (Option.bind (p12_values.f K t5 ([41] : List UInt8)) fun t6 => (if (((decide (t6.1.E = 0)) && (decide (0 ≤ t2.1))) && (!decide ((List.length t6.2 : Int) = t2.1))) = true then (Option.bind (p12_fail.f v0 120) fun t7 => some (t7, (⟨[], [], []⟩ : ApiPred))) else p12_pred.l1 zpr K K (⟨(List.getD v0.L (Int.toNat v0.I) default).S, t6.2, []⟩ : ApiPred) v0 (⟨t6.1.L, t6.1.I, v0.Deep, t6.1.Steps, t6.1.At, t6.1.E⟩ : St12))))) else none))) else none)) else none)
def p12_pred.f : Nat → St12 → Option (St12 × ApiPred)
  | 0, _ => none
  | K + 1, v0 => p12_pred.b (p12_pred.f K) K v0

def p12_steps.j1 (zst : Y10) (zar : Y11) (K : Nat) (l3 : List ApiStep) (y1 : St12) : Option (St12 × List ApiStep) :=
  some (y1, l3)
def p12_steps.j3 (zst : Y10) (zar : Y11) (s_l1 : List ApiStep → St12 → Option (St12 × List ApiStep)) (s_l2 : List ApiArg → List UInt8 → St12 → Option (St12 × List ApiStep)) (K : Nat) (l3 : List ApiStep) (l5 : List ApiArg) (y4_0 : List UInt8) (y1 : St12) : Option (St12 × List ApiStep) :=
  (if (decide (y1.E = 0)) = true then (Option.bind (zar y1) fun t5 => (if ((List.length l5 + List.length ([t5.2] : List ApiArg)) * 168 ≤ 140737488355328 ∧ List.length l5 + List.length ([t5.2] : List ApiArg) ≤ 140737488355328) then s_l2 (l5 ++ ([t5.2] : List ApiArg)) y4_0 t5.1 else none)) else s_l2 l5 y4_0 y1)
def p12_steps.j2 (zst : Y10) (zar : Y11) (s_l1 : List ApiStep → St12 → Option (St12 × List ApiStep)) (s_l2 : List ApiArg → List UInt8 → St12 → Option (St12 × List ApiStep)) (K : Nat) (l3 : List ApiStep) (l5 : List ApiArg) (y4_0 : List UInt8) (y1 : St12) : Option (St12 × List ApiStep) :=
  (if (decide (12 ≤ (List.length l5 : Int))) = true then (Option.bind (p12_fail.f y1 3) fun t6 => p12_steps.j3 zst zar s_l1 s_l2 K l3 l5 y4_0 t6) else p12_steps.j3 zst zar s_l1 s_l2 K l3 l5 y4_0 y1)
def p12_steps.l2 (zst : Y10) (zar : Y11) (s_l1 : List ApiStep → St12 → Option (St12 × List ApiStep)) (K : Nat) (l3 : List ApiStep) : Nat → List ApiArg → List UInt8 → St12 → Option (St12 × List ApiStep)
  | 0, _, _, _ => none
  | kl2 + 1, l5, y4_0, y1 => (Option.bind (if (decide (y1.E = 0)) = true then p12_is.f y1 ([41] : List UInt8) else some default) fun t4 => (if ((decide (y1.E = 0)) && (!t4)) = true then (if (decide (0 < (List.length l5 : Int))) = true then (Option.bind (p12_sign.f y1 ([44] : List UInt8)) fun t7 => p12_steps.j2 zst zar s_l1 (p12_steps.l2 zst zar s_l1 K l3 kl2) K l3 l5 y4_0 t7) else p12_steps.j2 zst zar s_l1 (p12_steps.l2 zst zar s_l1 K l3 kl2) K l3 l5 y4_0 y1) else (Option.bind (p12_sign.f y1 ([41] : List UInt8)) fun t8 => (if ((List.length l3 + List.length ([(⟨y4_0, l5⟩ : ApiStep)] : List ApiStep)) * 40 ≤ 140737488355328 ∧ List.length l3 + List.length ([(⟨y4_0, l5⟩ : ApiStep)] : List ApiStep) ≤ 140737488355328) then (Option.bind (p12_is.f t8 ([46] : List UInt8)) fun t9 => (if (!t9) = true then p12_steps.j1 zst zar K (l3 ++ ([(⟨y4_0, l5⟩ : ApiStep)] : List ApiStep)) t8 else s_l1 (l3 ++ ([(⟨y4_0, l5⟩ : ApiStep)] : List ApiStep)) (⟨t8.L, (IntKind.wrap .i64 (t8.I + 1)), t8.Deep, t8.Steps, t8.At, t8.E⟩ : St12))) else none))))
def p12_steps.l1 (zst : Y10) (zar : Y11) (K : Nat) : Nat → List ApiStep → St12 → Option (St12 × List ApiStep)
  | 0, _, _ => none
  | kl1 + 1, l3, y1 => (if (decide (y1.E = 0)) = true then (if (decide (150 ≤ y1.Steps)) = true then (Option.bind (p12_fail.f y1 3) fun t1 => some (t1, [])) else (if ((0 : Int) ≤ y1.I ∧ y1.I < (List.length y1.L : Int)) then (if (!decide (((List.getD y1.L (Int.toNat y1.I) default).Kind) = 1)) = true then (Option.bind (p12_fail.f (⟨y1.L, y1.I, y1.Deep, (IntKind.wrap .i64 (y1.Steps + 1)), y1.At, y1.E⟩ : St12) 120) fun t2 => some (t2, [])) else (if ((0 : Int) ≤ y1.I ∧ y1.I < (List.length y1.L : Int)) then (Option.bind (p12_sign.f (⟨y1.L, (IntKind.wrap .i64 (y1.I + 1)), y1.Deep, (IntKind.wrap .i64 (y1.Steps + 1)), y1.At, y1.E⟩ : St12) ([40] : List UInt8)) fun t3 => p12_steps.l2 zst zar (p12_steps.l1 zst zar K kl1) K l3 K ([] : List ApiArg) ((List.getD y1.L (Int.toNat y1.I) default).S) t3) else none)) else none)) else p12_steps.j1 zst zar K l3 y1)
def p12_steps.b (zst : Y10) (zar : Y11) (K : Nat) (v0 : St12) : Option (St12 × List ApiStep) :=
  p12_steps.l1 zst zar K K ([] : List ApiStep) v0
def p12_arg.j2 (zst : Y10) (zar : Y11) (K : Nat) (y1 : St12) (v14 : Int) : Option (St12 × ApiArg) :=
  (Option.bind (zst y1) fun t3 => some ((⟨t3.1.L, t3.1.I, v14, t3.1.Steps, t3.1.At, t3.1.E⟩ : St12), (⟨3, (⟨0, false, 0, 0, [], []⟩ : ApiValue), (⟨[], [], []⟩ : ApiPred), t3.2⟩ : ApiArg)))
def p12_arg.j1 (zst : Y10) (zar : Y11) (K : Nat) (y6 : ApiWord) (y1 : St12) : Option (St12 × ApiArg) :=
  (Option.bind (p12_into.f y1) fun t2 => (if (((decide (t2.E = 0)) && (decide (y6.Kind = 1))) && (decide (y6.S = ([95, 95] : List UInt8)))) = true then (Option.bind (p12_sign.f (⟨t2.L, (IntKind.wrap .i64 (t2.I + 1)), t2.Deep, t2.Steps, t2.At, t2.E⟩ : St12) ([46] : List UInt8)) fun t4 => p12_arg.j2 zst zar K t4 y1.Deep) else p12_arg.j2 zst zar K t2 y1.Deep))
def p12_arg.b (zst : Y10) (zar : Y11) (K : Nat) (v0 : St12) : Option (St12 × ApiArg) :=
  (Option.bind (p12_value.f K v0) fun t1 => (if (t1.2.2 || (!decide (t1.1.E = 0))) = true then some (t1.1, (⟨1, t1.2.1, (⟨[], [], []⟩ : ApiPred), []⟩ : ApiArg)) else (if ((0 : Int) ≤ v0.I ∧ v0.I < (List.length v0.L : Int)) then (if (decide (((List.getD v0.L (Int.toNat v0.I) default).Kind) = 1)) = true then (if ((0 : Int) ≤ (IntKind.wrap .i64 (v0.I + 1)) ∧ (IntKind.wrap .i64 (v0.I + 1)) < (List.length v0.L : Int)) then (Option.bind (r12_Preds.f K ((List.getD v0.L (Int.toNat v0.I) default).S)) fun t5 => (if (t5.2 && ((decide (((List.getD v0.L (Int.toNat (IntKind.wrap .i64 (v0.I + 1))) default).Kind) = 5)) && (decide (((List.getD v0.L (Int.toNat (IntKind.wrap .i64 (v0.I + 1))) default).S) = ([40] : List UInt8))))) = true then (Option.bind (p12_pred.f K v0) fun t6 => some (t6.1, (⟨2, (⟨0, false, 0, 0, [], []⟩ : ApiValue), t6.2, []⟩ : ApiArg))) else (if ((!((decide (((List.getD v0.L (Int.toNat (IntKind.wrap .i64 (v0.I + 1))) default).Kind) = 5)) && (decide (((List.getD v0.L (Int.toNat (IntKind.wrap .i64 (v0.I + 1))) default).S) = ([40] : List UInt8))))) && (!decide (((List.getD v0.L (Int.toNat v0.I) default).S) = ([95, 95] : List UInt8)))) = true then some ((⟨v0.L, (IntKind.wrap .i64 (v0.I + 1)), v0.Deep, v0.Steps, v0.At, v0.E⟩ : St12), (⟨4, (⟨4, false, 0, 0, (List.getD v0.L (Int.toNat v0.I) default).S, []⟩ : ApiValue), (⟨[], [], []⟩ : ApiPred), []⟩ : ApiArg)) else p12_arg.j1 zst zar K (List.getD v0.L (Int.toNat v0.I) default) v0))) else none) else p12_arg.j1 zst zar K (List.getD v0.L (Int.toNat v0.I) default) v0) else none)))
mutual
def p12_steps.f : Nat → St12 → Option (St12 × List ApiStep)
  | 0, _ => none
  | K + 1, v0 => p12_steps.b (p12_steps.f K) (p12_arg.f K) K v0
def p12_arg.f : Nat → St12 → Option (St12 × ApiArg)
  | 0, _ => none
  | K + 1, v0 => p12_arg.b (p12_steps.f K) (p12_arg.f K) K v0
end

def r12_Parse.j1 (K : Nat) (y1 : St12) (v9 : List ApiStep) : Option (List ApiStep × Int × Int) :=
  (if (!decide (y1.E = 0)) = true then some ([], y1.At, y1.E) else some (v9, 0, 0))
def r12_Parse.f (K : Nat) (v0 : List UInt8) : Option (List ApiStep × Int × Int) :=
  (Option.bind (r11_Words.f K v0) fun t1 => (if (!decide (t1.2.2 = 0)) = true then some ([], t1.2.1, t1.2.2) else (if ((0 : Int) ≤ 0 ∧ 0 < (List.length t1.1 : Int)) then (if (!decide (((List.getD t1.1 (Int.toNat 0) default).Kind) = 1)) = false → ((0 : Int) ≤ 0 ∧ 0 < (List.length t1.1 : Int)) then (if ((!decide (((List.getD t1.1 (Int.toNat 0) default).Kind) = 1)) || (!decide (((List.getD t1.1 (Int.toNat 0) default).S) = ([103] : List UInt8)))) = true then (if ((0 : Int) ≤ 0 ∧ 0 < (List.length t1.1 : Int)) then some ([], (List.getD t1.1 (Int.toNat 0) default).At, 120) else none) else (Option.bind (p12_sign.f (⟨t1.1, 1, 0, 0, 0, 0⟩ : St12) ([46] : List UInt8)) fun t2 => (Option.bind (p12_steps.f K t2) fun t3 => (if (decide (t3.1.E = 0)) = true → ((0 : Int) ≤ t3.1.I ∧ t3.1.I < (List.length t3.1.L : Int)) then (if ((decide (t3.1.E = 0)) && (!decide (((List.getD t3.1.L (Int.toNat t3.1.I) default).Kind) = 0))) = true then (Option.bind (p12_fail.f t3.1 120) fun t4 => r12_Parse.j1 K t4 t3.2) else r12_Parse.j1 K t3.1 t3.2) else none)))) else none) else none)))

def check_forms.j8  (v74 : Bool) : Option (List (List UInt8)) :=
  (if v74 = true then some (([([] : List UInt8)] : List (List UInt8))) else some ([]))
def check_forms.j7  (v3 : List UInt8) (v63 : Bool) : Option (List (List UInt8)) :=
  (if v63 = true then some (([([118] : List UInt8)] : List (List UInt8))) else (if (decide (v3 = ([112, 114, 111, 112, 101, 114, 116, 121] : List UInt8))) = true then some (([([110, 118] : List UInt8), ([119, 110, 118] : List UInt8)] : List (List UInt8))) else (if (decide (v3 = ([98, 121] : List UInt8))) = true then some (([([] : List UInt8), ([98] : List UInt8), ([119] : List UInt8), ([98, 119] : List UInt8)] : List (List UInt8))) else (if (decide (v3 = ([100, 101, 100, 117, 112] : List UInt8))) = true then check_forms.j8 (decide (v3 = ([100, 101, 100, 117, 112] : List UInt8))) else (if (decide (v3 = ([115, 105, 109, 112, 108, 101, 80, 97, 116, 104] : List UInt8))) = true then check_forms.j8 (decide (v3 = ([115, 105, 109, 112, 108, 101, 80, 97, 116, 104] : List UInt8))) else (if (decide (v3 = ([111, 117, 116, 86] : List UInt8))) = true then check_forms.j8 (decide (v3 = ([111, 117, 116, 86] : List UInt8))) else (if (decide (v3 = ([105, 110, 86] : List UInt8))) = true then check_forms.j8 (decide (v3 = ([105, 110, 86] : List UInt8))) else (if (decide (v3 = ([98, 111, 116, 104, 86] : List UInt8))) = true then check_forms.j8 (decide (v3 = ([98, 111, 116, 104, 86] : List UInt8))) else (if (decide (v3 = ([105, 100] : List UInt8))) = true then check_forms.j8 (decide (v3 = ([105, 100] : List UInt8))) else (if (decide (v3 = ([108, 97, 98, 101, 108] : List UInt8))) = true then check_forms.j8 (decide (v3 = ([108, 97, 98, 101, 108] : List UInt8))) else (if (decide (v3 = ([105, 100, 101, 110, 116, 105, 116, 121] : List UInt8))) = true then check_forms.j8 (decide (v3 = ([105, 100, 101, 110, 116, 105, 116, 121] : List UInt8))) else (if (decide (v3 = ([112, 97, 116, 104] : List UInt8))) = true then check_forms.j8 (decide (v3 = ([112, 97, 116, 104] : List UInt8))) else (if (decide (v3 = ([102, 111, 108, 100] : List UInt8))) = true then check_forms.j8 (decide (v3 = ([102, 111, 108, 100] : List UInt8))) else (if (decide (v3 = ([117, 110, 102, 111, 108, 100] : List UInt8))) = true then check_forms.j8 (decide (v3 = ([117, 110, 102, 111, 108, 100] : List UInt8))) else (if (decide (v3 = ([99, 111, 117, 110, 116] : List UInt8))) = true then check_forms.j8 (decide (v3 = ([99, 111, 117, 110, 116] : List UInt8))) else (if (decide (v3 = ([115, 117, 109] : List UInt8))) = true then check_forms.j8 (decide (v3 = ([115, 117, 109] : List UInt8))) else (if (decide (v3 = ([109, 105, 110] : List UInt8))) = true then check_forms.j8 (decide (v3 = ([109, 105, 110] : List UInt8))) else (if (decide (v3 = ([109, 97, 120] : List UInt8))) = true then check_forms.j8 (decide (v3 = ([109, 97, 120] : List UInt8))) else (if (decide (v3 = ([109, 101, 97, 110] : List UInt8))) = true then check_forms.j8 (decide (v3 = ([109, 101, 97, 110] : List UInt8))) else (if (decide (v3 = ([103, 114, 111, 117, 112] : List UInt8))) = true then check_forms.j8 (decide (v3 = ([103, 114, 111, 117, 112] : List UInt8))) else (if (decide (v3 = ([103, 114, 111, 117, 112, 67, 111, 117, 110, 116] : List UInt8))) = true then check_forms.j8 (decide (v3 = ([103, 114, 111, 117, 112, 67, 111, 117, 110, 116] : List UInt8))) else (if (decide (v3 = ([111, 114, 100, 101, 114] : List UInt8))) = true then check_forms.j8 (decide (v3 = ([111, 114, 100, 101, 114] : List UInt8))) else (if (decide (v3 = ([98, 97, 114, 114, 105, 101, 114] : List UInt8))) = true then check_forms.j8 (decide (v3 = ([98, 97, 114, 114, 105, 101, 114] : List UInt8))) else (if (decide (v3 = ([101, 109, 105, 116] : List UInt8))) = true then check_forms.j8 (decide (v3 = ([101, 109, 105, 116] : List UInt8))) else check_forms.j8 (decide (v3 = ([100, 114, 111, 112] : List UInt8)))))))))))))))))))))))))))
def check_forms.j6  (v3 : List UInt8) (v54 : Bool) : Option (List (List UInt8)) :=
  (if v54 = true then some (([([107] : List UInt8)] : List (List UInt8))) else (if (decide (v3 = ([114, 97, 110, 103, 101] : List UInt8))) = true then some (([([107, 107] : List UInt8)] : List (List UInt8))) else (if (decide (v3 = ([99, 111, 110, 115, 116, 97, 110, 116] : List UInt8))) = true then check_forms.j7 v3 (decide (v3 = ([99, 111, 110, 115, 116, 97, 110, 116] : List UInt8))) else (if (decide (v3 = ([97, 100, 100] : List UInt8))) = true then check_forms.j7 v3 (decide (v3 = ([97, 100, 100] : List UInt8))) else check_forms.j7 v3 (decide (v3 = ([109, 117, 108] : List UInt8)))))))
def check_forms.j5  (v3 : List UInt8) (v45 : Bool) : Option (List (List UInt8)) :=
  (if v45 = true then some (([([116, 42] : List UInt8)] : List (List UInt8))) else (if (decide (v3 = ([99, 104, 111, 111, 115, 101] : List UInt8))) = true then some (([([116, 116, 116] : List UInt8)] : List (List UInt8))) else (if (decide (v3 = ([108, 105, 109, 105, 116] : List UInt8))) = true then check_forms.j6 v3 (decide (v3 = ([108, 105, 109, 105, 116] : List UInt8))) else (if (decide (v3 = ([115, 107, 105, 112] : List UInt8))) = true then check_forms.j6 v3 (decide (v3 = ([115, 107, 105, 112] : List UInt8))) else (if (decide (v3 = ([116, 97, 105, 108] : List UInt8))) = true then check_forms.j6 v3 (decide (v3 = ([116, 97, 105, 108] : List UInt8))) else check_forms.j6 v3 (decide (v3 = ([116, 105, 109, 101, 115] : List UInt8))))))))
def check_forms.j4  (v3 : List UInt8) (v35 : Bool) : Option (List (List UInt8)) :=
  (if v35 = true then some (([([116] : List UInt8)] : List (List UInt8))) else (if (decide (v3 = ([97, 110, 100] : List UInt8))) = true then check_forms.j5 v3 (decide (v3 = ([97, 110, 100] : List UInt8))) else (if (decide (v3 = ([111, 114] : List UInt8))) = true then check_forms.j5 v3 (decide (v3 = ([111, 114] : List UInt8))) else (if (decide (v3 = ([117, 110, 105, 111, 110] : List UInt8))) = true then check_forms.j5 v3 (decide (v3 = ([117, 110, 105, 111, 110] : List UInt8))) else check_forms.j5 v3 (decide (v3 = ([99, 111, 97, 108, 101, 115, 99, 101] : List UInt8)))))))
def check_forms.j3  (v3 : List UInt8) (v22 : Bool) : Option (List (List UInt8)) :=
  (if v22 = true then some (([([110, 42] : List UInt8)] : List (List UInt8))) else (if (decide (v3 = ([105, 115] : List UInt8))) = true then some (([([113] : List UInt8)] : List (List UInt8))) else (if (decide (v3 = ([119, 104, 101, 114, 101] : List UInt8))) = true then check_forms.j4 v3 (decide (v3 = ([119, 104, 101, 114, 101] : List UInt8))) else (if (decide (v3 = ([110, 111, 116] : List UInt8))) = true then check_forms.j4 v3 (decide (v3 = ([110, 111, 116] : List UInt8))) else (if (decide (v3 = ([111, 112, 116, 105, 111, 110, 97, 108] : List UInt8))) = true then check_forms.j4 v3 (decide (v3 = ([111, 112, 116, 105, 111, 110, 97, 108] : List UInt8))) else (if (decide (v3 = ([114, 101, 112, 101, 97, 116] : List UInt8))) = true then check_forms.j4 v3 (decide (v3 = ([114, 101, 112, 101, 97, 116] : List UInt8))) else (if (decide (v3 = ([108, 111, 99, 97, 108] : List UInt8))) = true then check_forms.j4 v3 (decide (v3 = ([108, 111, 99, 97, 108] : List UInt8))) else (if (decide (v3 = ([117, 110, 116, 105, 108] : List UInt8))) = true then check_forms.j4 v3 (decide (v3 = ([117, 110, 116, 105, 108] : List UInt8))) else (if (decide (v3 = ([116, 111] : List UInt8))) = true then check_forms.j4 v3 (decide (v3 = ([116, 111] : List UInt8))) else check_forms.j4 v3 (decide (v3 = ([102, 114, 111, 109] : List UInt8))))))))))))
def check_forms.j2  (v3 : List UInt8) (v12 : Bool) : Option (List (List UInt8)) :=
  (if v12 = true then some (([([110] : List UInt8)] : List (List UInt8))) else (if (decide (v3 = ([104, 97, 115] : List UInt8))) = true then some (([([110] : List UInt8), ([110, 113] : List UInt8)] : List (List UInt8))) else (if (decide (v3 = ([104, 97, 115, 76, 97, 98, 101, 108] : List UInt8))) = true then check_forms.j3 v3 (decide (v3 = ([104, 97, 115, 76, 97, 98, 101, 108] : List UInt8))) else (if (decide (v3 = ([111, 117, 116] : List UInt8))) = true then check_forms.j3 v3 (decide (v3 = ([111, 117, 116] : List UInt8))) else (if (decide (v3 = ([105, 110] : List UInt8))) = true then check_forms.j3 v3 (decide (v3 = ([105, 110] : List UInt8))) else (if (decide (v3 = ([98, 111, 116, 104] : List UInt8))) = true then check_forms.j3 v3 (decide (v3 = ([98, 111, 116, 104] : List UInt8))) else (if (decide (v3 = ([111, 117, 116, 69] : List UInt8))) = true then check_forms.j3 v3 (decide (v3 = ([111, 117, 116, 69] : List UInt8))) else (if (decide (v3 = ([105, 110, 69] : List UInt8))) = true then check_forms.j3 v3 (decide (v3 = ([105, 110, 69] : List UInt8))) else (if (decide (v3 = ([98, 111, 116, 104, 69] : List UInt8))) = true then check_forms.j3 v3 (decide (v3 = ([98, 111, 116, 104, 69] : List UInt8))) else check_forms.j3 v3 (decide (v3 = ([118, 97, 108, 117, 101, 115] : List UInt8))))))))))))
def check_forms.j1  (v3 : List UInt8) (v4 : Bool) : Option (List (List UInt8)) :=
  (if v4 = true then some (([([105, 42] : List UInt8)] : List (List UInt8))) else (if (decide (v3 = ([105, 110, 106, 101, 99, 116] : List UInt8))) = true then some (([([118, 42] : List UInt8)] : List (List UInt8))) else (if (decide (v3 = ([97, 100, 100, 86] : List UInt8))) = true then check_forms.j2 v3 (decide (v3 = ([97, 100, 100, 86] : List UInt8))) else (if (decide (v3 = ([97, 100, 100, 69] : List UInt8))) = true then check_forms.j2 v3 (decide (v3 = ([97, 100, 100, 69] : List UInt8))) else (if (decide (v3 = ([104, 97, 115, 78, 111, 116] : List UInt8))) = true then check_forms.j2 v3 (decide (v3 = ([104, 97, 115, 78, 111, 116] : List UInt8))) else (if (decide (v3 = ([97, 115] : List UInt8))) = true then check_forms.j2 v3 (decide (v3 = ([97, 115] : List UInt8))) else check_forms.j2 v3 (decide (v3 = ([115, 101, 108, 101, 99, 116] : List UInt8)))))))))
def check_forms.f  (v0 : List UInt8) : Option (List (List UInt8)) :=
  (if (decide (v0 = ([86] : List UInt8))) = true then check_forms.j1 v0 (decide (v0 = ([86] : List UInt8))) else (if (decide (v0 = ([69] : List UInt8))) = true then check_forms.j1 v0 (decide (v0 = ([69] : List UInt8))) else check_forms.j1 v0 (decide (v0 = ([104, 97, 115, 73, 100] : List UInt8)))))

def graph_Name.l1 (K : Nat) : Nat → List UInt8 → List Int → Int → Int → Option Bool
  | 0, _, _, _, _ => none
  | kl1 + 1, v0, v7, v8, v9 => (if (decide (v9 < v8)) = true then (if ((0 : Int) ≤ v9 ∧ v9 < (List.length v7 : Int)) then (if ((!(((decide ((List.getD v7 (Int.toNat v9) default) = 95)) || ((decide (97 ≤ (List.getD v7 (Int.toNat v9) default))) && (decide ((List.getD v7 (Int.toNat v9) default) ≤ 122)))) || ((decide (65 ≤ (List.getD v7 (Int.toNat v9) default))) && (decide ((List.getD v7 (Int.toNat v9) default) ≤ 90))))) && (((decide (v9 = 0)) || (decide ((List.getD v7 (Int.toNat v9) default) < 48))) || (decide (57 < (List.getD v7 (Int.toNat v9) default))))) = true then some (false) else graph_Name.l1 K kl1 v0 v7 v8 (IntKind.wrap .i64 (v9 + 1))) else none) else some (((!decide (v0 = ([] : List UInt8))) && (decide ((List.length v0 : Int) ≤ 16)))))
def graph_Name.f (K : Nat) (v0 : List UInt8) : Option Bool :=
  graph_Name.l1 K K v0 (FW.bytesI v0) (List.length (FW.bytesI v0) : Int) 0

def check_is.f (K : Nat) (v0 : ApiArg) (v1 : Int) (v2 : List UInt8) : Option Bool :=
  (Option.bind (if ((decide (v0.Kind = 1)) && (decide (v0.V.Kind = 4))) = true then graph_Name.f K v0.V.S else some default) fun t1 => (if (decide (v1 = 118)) = true then some ((decide (v0.Kind = 1))) else (if (decide (v1 = 110)) = true then some ((((decide (v0.Kind = 1)) && (decide (v0.V.Kind = 4))) && t1)) else (if (decide (v1 = 105)) = true then some ((((decide (v0.Kind = 1)) && (decide (v0.V.Kind = 2))) && (decide (1 ≤ v0.V.N)))) else (if (decide (v1 = 107)) = true then some ((((decide (v0.Kind = 1)) && (decide (v0.V.Kind = 2))) && (decide (0 ≤ v0.V.N)))) else (if (decide (v1 = 113)) = true then some (((decide (v0.Kind = 1)) || (decide (v0.Kind = 2)))) else (if (decide (v1 = 116)) = true then some ((decide (v0.Kind = 3))) else (if (decide (v1 = 98)) = true then some (((((decide (v0.Kind = 1)) && (decide (v0.V.Kind = 4))) && t1) || (decide (v0.Kind = 3)))) else (if (!decide (v0.Kind = 4)) = true then some (false) else (if (decide (v2 = ([98, 121] : List UInt8))) = true then some (((decide (v0.V.S = ([97, 115, 99] : List UInt8))) || (decide (v0.V.S = ([100, 101, 115, 99] : List UInt8))))) else some (((decide (v0.V.S = ([115, 105, 110, 103, 108, 101] : List UInt8))) || (decide (v0.V.S = ([108, 105, 115, 116] : List UInt8)))))))))))))))

def check_fits_1.f (K : Nat) (v0 : ApiArg) (v1 : OVarcstr_9) (v2 : OVarApiStep) : Option Bool :=
  (if ((0 : Int) ≤ 0 ∧ 0 < (List.length v1.v : Int)) then (Option.bind (check_is.f K v0 (FW.bt v1.v 0) v2.Name) fun t1 => some ((!t1))) else none)

def iF_fits.l1 (K : Nat) (v1c0 : OVarcstr_9) (v1c1 : OVarApiStep) : Nat → List ApiArg → Int → Int → Option Int
  | 0, _, _, _ => none
  | kl1 + 1, v0, v7, v8 => (if (decide (v8 < v7)) = true then (if ((0 : Int) ≤ v8 ∧ v8 < (List.length v0 : Int)) then (Option.bind (check_fits_1.f K (List.getD v0 (Int.toNat v8) default) v1c0 v1c1) fun t1 => (if t1 = true then some (v8) else iF_fits.l1 K v1c0 v1c1 kl1 v0 v7 (IntKind.wrap .i64 (v8 + 1)))) else none) else some ((-1)))
def iF_fits.f (K : Nat) (v0 : List ApiArg) (v1c0 : OVarcstr_9) (v1c1 : OVarApiStep) : Option Int :=
  iF_fits.l1 K v1c0 v1c1 K v0 (List.length v0 : Int) 0

def cF_fits.f (K : Nat) (v0 : List ApiArg) (v1c0 : OVarcstr_9) (v1c1 : OVarApiStep) : Option Bool :=
  (Option.bind (iF_fits.f K v0 v1c0 v1c1) fun t1 => some ((decide (0 ≤ t1))))

def check_fits.l1 (K : Nat) : Nat → List UInt8 → ApiStep → List ApiArg → Int → Int → Option Bool
  | 0, _, _, _, _, _ => none
  | kl1 + 1, y2, y1, v27, v28, v29 => (if (decide (v29 < v28)) = true then (if ((0 : Int) ≤ v29 ∧ v29 < (List.length v27 : Int)) then (if ((0 : Int) ≤ v29 ∧ v29 < (List.length y2 : Int)) then (Option.bind (check_is.f K (List.getD v27 (Int.toNat v29) default) (FW.bt y2 v29) y1.Name) fun t2 => (if (!t2) = true then some (false) else check_fits.l1 K kl1 y2 y1 v27 v28 (IntKind.wrap .i64 (v29 + 1)))) else none) else none) else some (true))
def check_fits.f (K : Nat) (v0 : ApiStep) (v1 : List UInt8) : Option Bool :=
  (if (decide ((List.length v1 : Int) = 2)) = true → ((0 : Int) ≤ 1 ∧ 1 < (List.length v1 : Int)) then (if ((decide ((List.length v1 : Int) = 2)) && (decide ((FW.bt v1 1) = 42))) = true then (Option.bind (cF_fits.f K v0.Args (⟨v1⟩ : OVarcstr_9) v0) fun t1 => some ((!t1))) else (if (!decide ((List.length v1 : Int) = (List.length v0.Args : Int))) = true then some (false) else check_fits.l1 K K v1 v0 v0.Args (List.length v0.Args : Int) 0)) else none)

def check_steps_1.f (K : Nat) (v0 : List UInt8) (v1 : OVarApiStep) : Option Bool :=
  (Option.bind (check_fits.f K v1 v0) fun t1 => some (t1))

def iF_steps.l1 (K : Nat) (v1c0 : OVarApiStep) : Nat → List (List UInt8) → Int → Int → Option Int
  | 0, _, _, _ => none
  | kl1 + 1, v0, v7, v8 => (if (decide (v8 < v7)) = true then (if ((0 : Int) ≤ v8 ∧ v8 < (List.length v0 : Int)) then (Option.bind (check_steps_1.f K (List.getD v0 (Int.toNat v8) default) v1c0) fun t1 => (if t1 = true then some (v8) else iF_steps.l1 K v1c0 kl1 v0 v7 (IntKind.wrap .i64 (v8 + 1)))) else none) else some ((-1)))
def iF_steps.f (K : Nat) (v0 : List (List UInt8)) (v1c0 : OVarApiStep) : Option Int :=
  iF_steps.l1 K v1c0 K v0 (List.length v0 : Int) 0

def cF_steps.f (K : Nat) (v0 : List (List UInt8)) (v1c0 : OVarApiStep) : Option Bool :=
  (Option.bind (iF_steps.f K v0 v1c0) fun t1 => some ((decide (0 ≤ t1))))

def check_after.j2  (v12 : Bool) : Option (List (List UInt8)) :=
  (if v12 = true then some (([([97, 100, 100, 69] : List UInt8), ([116, 111] : List UInt8), ([102, 114, 111, 109] : List UInt8)] : List (List UInt8))) else some ([]))
def check_after.j1  (v3 : List UInt8) (v7 : Bool) : Option (List (List UInt8)) :=
  (if v7 = true then some (([([114, 101, 112, 101, 97, 116] : List UInt8), ([116, 105, 109, 101, 115] : List UInt8), ([117, 110, 116, 105, 108] : List UInt8), ([101, 109, 105, 116] : List UInt8)] : List (List UInt8))) else (if (decide (v3 = ([116, 111] : List UInt8))) = true then check_after.j2 (decide (v3 = ([116, 111] : List UInt8))) else check_after.j2 (decide (v3 = ([102, 114, 111, 109] : List UInt8)))))
def check_after.f  (v0 : List UInt8) : Option (List (List UInt8)) :=
  (if (decide (v0 = ([98, 121] : List UInt8))) = true then some (([([111, 114, 100, 101, 114] : List UInt8), ([103, 114, 111, 117, 112] : List UInt8), ([103, 114, 111, 117, 112, 67, 111, 117, 110, 116] : List UInt8), ([100, 101, 100, 117, 112] : List UInt8), ([98, 121] : List UInt8)] : List (List UInt8))) else (if (decide (v0 = ([116, 105, 109, 101, 115] : List UInt8))) = true then check_after.j1 v0 (decide (v0 = ([116, 105, 109, 101, 115] : List UInt8))) else (if (decide (v0 = ([117, 110, 116, 105, 108] : List UInt8))) = true then check_after.j1 v0 (decide (v0 = ([117, 110, 116, 105, 108] : List UInt8))) else check_after.j1 v0 (decide (v0 = ([101, 109, 105, 116] : List UInt8))))))

def slices_Index_string_string.l1 (K : Nat) : Nat → List (List UInt8) → List UInt8 → Int → Int → Option Int
  | 0, _, _, _, _ => none
  | kl1 + 1, v0, v1, v7, v8 => (if (decide (v8 < v7)) = true then (if ((0 : Int) ≤ v8 ∧ v8 < (List.length v0 : Int)) then (if (decide (v1 = (List.getD v0 (Int.toNat v8) default))) = true then some (v8) else slices_Index_string_string.l1 K kl1 v0 v1 v7 (IntKind.wrap .i64 (v8 + 1))) else none) else some ((-1)))
def slices_Index_string_string.f (K : Nat) (v0 : List (List UInt8)) (v1 : List UInt8) : Option Int :=
  slices_Index_string_string.l1 K K v0 v1 (List.length v0 : Int) 0

def slices_Contains_string_string.f (K : Nat) (v0 : List (List UInt8)) (v1 : List UInt8) : Option Bool :=
  (Option.bind (slices_Index_string_string.f K v0 v1) fun t1 => some ((decide (0 ≤ t1))))

def check_run.j1 (s_l1 : List ApiStep → Int → List UInt8 → Int → Option (Int × List UInt8)) (K : Nat) (v0 : List ApiStep) (v1 : Int) (v2 : List UInt8) (v8 : Int) : Option (Int × List UInt8) :=
  (if ((0 : Int) ≤ v1 ∧ v1 < (List.length v0 : Int)) then (Option.bind (check_after.f ((List.getD v0 (Int.toNat v1) default).Name)) fun t1 => (if (List.isEmpty t1) = true then (if ((0 : Int) ≤ v1 ∧ v1 < (List.length v0 : Int)) then some (v8, (List.getD v0 (Int.toNat v1) default).Name) else none) else s_l1 v0 (IntKind.wrap .i64 (v1 - 1)) v2 v8)) else none)
def check_run.l1 (K : Nat) : Nat → List ApiStep → Int → List UInt8 → Int → Option (Int × List UInt8)
  | 0, _, _, _, _ => none
  | kl1 + 1, v0, v1, v2, v8 => (if (decide (0 ≤ v1)) = true then (if ((0 : Int) ≤ v1 ∧ v1 < (List.length v0 : Int)) then (if (decide (((List.getD v0 (Int.toNat v1) default).Name) = v2)) = true then check_run.j1 (check_run.l1 K kl1) K v0 v1 v2 (IntKind.wrap .i64 (v8 + 1)) else check_run.j1 (check_run.l1 K kl1) K v0 v1 v2 v8) else none) else some (v8, ([] : List UInt8)))
def check_run.f (K : Nat) (v0 : List ApiStep) (v1 : Int) (v2 : List UInt8) : Option (Int × List UInt8) :=
  check_run.l1 K K v0 v1 v2 0

def check_most.f  (v0 : List UInt8) (v1 : List UInt8) : Option Int :=
  (if ((decide (v0 = ([98, 121] : List UInt8))) && (decide (v1 = ([111, 114, 100, 101, 114] : List UInt8)))) = true then some (12) else (if ((decide (v0 = ([98, 121] : List UInt8))) && (decide (v1 = ([103, 114, 111, 117, 112] : List UInt8)))) = true then some (2) else some (1)))

def check_place.j1 (K : Nat) (y1 : ApiStep) (v0 : List ApiStep) (v1 : Int) : Option Int :=
  (if (decide ((IntKind.wrap .i64 (v1 + 1)) = (List.length v0 : Int))) = false → ((0 : Int) ≤ (IntKind.wrap .i64 (v1 + 1)) ∧ (IntKind.wrap .i64 (v1 + 1)) < (List.length v0 : Int)) then (Option.bind (if (decide ((IntKind.wrap .i64 (v1 + 1)) = (List.length v0 : Int))) = false then check_after.f ((List.getD v0 (Int.toNat (IntKind.wrap .i64 (v1 + 1))) default).Name) else some default) fun t1 => (if ((decide ((IntKind.wrap .i64 (v1 + 1)) = (List.length v0 : Int))) || (List.isEmpty t1)) = false → (decide (y1.Name = ([97, 100, 100, 69] : List UInt8))) = true → ((0 : Int) ≤ (IntKind.wrap .i64 (v1 + 1)) ∧ (IntKind.wrap .i64 (v1 + 1)) < (List.length v0 : Int)) then (if (!decide (((List.getD v0 (Int.toNat (IntKind.wrap .i64 (v1 + 1))) default).Name) = ([116, 111] : List UInt8))) = true → ((decide ((IntKind.wrap .i64 (v1 + 1)) = (List.length v0 : Int))) || (List.isEmpty t1)) = false → (decide (y1.Name = ([97, 100, 100, 69] : List UInt8))) = true → ((0 : Int) ≤ (IntKind.wrap .i64 (v1 + 1)) ∧ (IntKind.wrap .i64 (v1 + 1)) < (List.length v0 : Int)) then (if (((decide (y1.Name = ([97, 100, 100, 69] : List UInt8))) && (((decide ((IntKind.wrap .i64 (v1 + 1)) = (List.length v0 : Int))) || (List.isEmpty t1)) || ((!decide (((List.getD v0 (Int.toNat (IntKind.wrap .i64 (v1 + 1))) default).Name) = ([116, 111] : List UInt8))) && (!decide (((List.getD v0 (Int.toNat (IntKind.wrap .i64 (v1 + 1))) default).Name) = ([102, 114, 111, 109] : List UInt8)))))) || ((decide (y1.Name = ([114, 101, 112, 101, 97, 116] : List UInt8))) && ((decide ((IntKind.wrap .i64 (v1 + 1)) = (List.length v0 : Int))) || (List.isEmpty t1)))) = true then some (142) else some (0)) else none) else none)) else none)
def check_place.f (K : Nat) (v0 : List ApiStep) (v1 : Int) (v2 : Bool) : Option Int :=
  (if ((0 : Int) ≤ v1 ∧ v1 < (List.length v0 : Int)) then (if ((v2 && (decide (v1 = 0))) && (!((((decide (((List.getD v0 (Int.toNat v1) default).Name) = ([86] : List UInt8))) || (decide (((List.getD v0 (Int.toNat v1) default).Name) = ([69] : List UInt8)))) || (decide (((List.getD v0 (Int.toNat v1) default).Name) = ([97, 100, 100, 86] : List UInt8)))) || (decide (((List.getD v0 (Int.toNat v1) default).Name) = ([105, 110, 106, 101, 99, 116] : List UInt8)))))) = true then some (142) else (Option.bind (check_after.f ((List.getD v0 (Int.toNat v1) default).Name)) fun t2 => (if (!(List.isEmpty t2)) = true then (if (decide (v1 = 0)) = false → ((0 : Int) ≤ (IntKind.wrap .i64 (v1 - 1)) ∧ (IntKind.wrap .i64 (v1 - 1)) < (List.length v0 : Int)) then (Option.bind (if (decide (v1 = 0)) = false then slices_Contains_string_string.f K t2 ((List.getD v0 (Int.toNat (IntKind.wrap .i64 (v1 - 1))) default).Name) else some default) fun t3 => (if ((decide (v1 = 0)) || (!t3)) = true then some (142) else (Option.bind (check_run.f K v0 v1 ((List.getD v0 (Int.toNat v1) default).Name)) fun t4 => (Option.bind (check_most.f ((List.getD v0 (Int.toNat v1) default).Name) t4.2) fun t5 => (if (decide (t5 < t4.1)) = true then some (142) else (if (((decide (((List.getD v0 (Int.toNat v1) default).Name) = ([98, 121] : List UInt8))) && (!decide (t4.2 = ([111, 114, 100, 101, 114] : List UInt8)))) && (decide (0 < (List.length ((List.getD v0 (Int.toNat v1) default).Args) : Int)))) = true → ((0 : Int) ≤ (IntKind.wrap .i64 ((List.length ((List.getD v0 (Int.toNat v1) default).Args) : Int) - 1)) ∧ (IntKind.wrap .i64 ((List.length ((List.getD v0 (Int.toNat v1) default).Args) : Int) - 1)) < (List.length ((List.getD v0 (Int.toNat v1) default).Args) : Int)) then (if ((((decide (((List.getD v0 (Int.toNat v1) default).Name) = ([98, 121] : List UInt8))) && (!decide (t4.2 = ([111, 114, 100, 101, 114] : List UInt8)))) && (decide (0 < (List.length ((List.getD v0 (Int.toNat v1) default).Args) : Int)))) && (decide (((List.getD ((List.getD v0 (Int.toNat v1) default).Args) (Int.toNat (IntKind.wrap .i64 ((List.length ((List.getD v0 (Int.toNat v1) default).Args) : Int) - 1))) default).Kind) = 4))) = true then some (141) else check_place.j1 K (List.getD v0 (Int.toNat v1) default) v0 v1) else none)))))) else none) else check_place.j1 K (List.getD v0 (Int.toNat v1) default) v0 v1))) else none)

def check_steps.j1 (zcs : List ApiStep → Bool → Option Int) (s_l1 : List ApiStep → Bool → List ApiStep → Int → Int → Option Int) (s_l2 : List ApiStep → Bool → List ApiStep → Int → Int → List ApiArg → Int → Int → Option Int) (K : Nat) (v0 : List ApiStep) (v1 : Bool) (v12 : List ApiStep) (v13 : Int) (v14 : Int) (v65 : List ApiArg) (v66 : Int) (v67 : Int) : Option Int :=
  s_l2 v0 v1 v12 v13 v14 v65 v66 (IntKind.wrap .i64 (v67 + 1))
def check_steps.l2 (zcs : List ApiStep → Bool → Option Int) (s_l1 : List ApiStep → Bool → List ApiStep → Int → Int → Option Int) (K : Nat) : Nat → List ApiStep → Bool → List ApiStep → Int → Int → List ApiArg → Int → Int → Option Int
  | 0, _, _, _, _, _, _, _, _ => none
  | kl2 + 1, v0, v1, v12, v13, v14, v65, v66, v67 => (if (decide (v67 < v66)) = true then (if ((0 : Int) ≤ v67 ∧ v67 < (List.length v65 : Int)) then (if (!decide (((List.getD v65 (Int.toNat v67) default).Kind) = 3)) = true then check_steps.j1 zcs s_l1 (check_steps.l2 zcs s_l1 K kl2) K v0 v1 v12 v13 v14 v65 v66 v67 else (Option.bind (zcs ((List.getD v65 (Int.toNat v67) default).T) false) fun t4 => (if (!decide (t4 = 0)) = true then some (t4) else check_steps.j1 zcs s_l1 (check_steps.l2 zcs s_l1 K kl2) K v0 v1 v12 v13 v14 v65 v66 v67))) else none) else s_l1 v0 v1 v12 v13 (IntKind.wrap .i64 (v14 + 1)))
def check_steps.l1 (zcs : List ApiStep → Bool → Option Int) (K : Nat) : Nat → List ApiStep → Bool → List ApiStep → Int → Int → Option Int
  | 0, _, _, _, _, _ => none
  | kl1 + 1, v0, v1, v12, v13, v14 => (if (decide (v14 < v13)) = true then (if ((0 : Int) ≤ v14 ∧ v14 < (List.length v12 : Int)) then (Option.bind (check_forms.f ((List.getD v12 (Int.toNat v14) default).Name)) fun t1 => (if (List.isEmpty t1) = true then some (140) else (Option.bind (cF_steps.f K t1 (List.getD v12 (Int.toNat v14) default)) fun t2 => (if (!t2) = true then some (141) else (if ((((((decide (((List.getD v12 (Int.toNat v14) default).Name) = ([105, 110, 106, 101, 99, 116] : List UInt8))) || (decide (((List.getD v12 (Int.toNat v14) default).Name) = ([117, 110, 105, 111, 110] : List UInt8)))) || (decide (((List.getD v12 (Int.toNat v14) default).Name) = ([99, 111, 97, 108, 101, 115, 99, 101] : List UInt8)))) || (decide (((List.getD v12 (Int.toNat v14) default).Name) = ([97, 110, 100] : List UInt8)))) || (decide (((List.getD v12 (Int.toNat v14) default).Name) = ([111, 114] : List UInt8)))) && (decide ((List.length ((List.getD v12 (Int.toNat v14) default).Args) : Int) = 0))) = true then some (141) else (Option.bind (check_place.f K v0 v14 v1) fun t3 => (if (!decide (t3 = 0)) = true then some (t3) else check_steps.l2 zcs (check_steps.l1 zcs K kl1) K K v0 v1 v12 v13 v14 ((List.getD v12 (Int.toNat v14) default).Args) (List.length ((List.getD v12 (Int.toNat v14) default).Args) : Int) 0))))))) else none) else some (0))
def check_steps.b (zcs : List ApiStep → Bool → Option Int) (K : Nat) (v0 : List ApiStep) (v1 : Bool) : Option Int :=
  check_steps.l1 zcs K K v0 v1 v0 (List.length v0 : Int) 0
def check_steps.f : Nat → List ApiStep → Bool → Option Int
  | 0, _, _ => none
  | K + 1, v0, v1 => check_steps.b (check_steps.f K) K v0 v1

def check_Check.f (K : Nat) (v0 : List ApiStep) : Option Int :=
  (if (decide ((List.length v0 : Int) = 0)) = true then some (142) else (Option.bind (check_steps.f K v0 true) fun t1 => some (t1)))

def code_modifies.j1  (v4 : Bool) : Option Bool :=
  (if v4 = true then some (true) else some (false))
def code_modifies.f  (v0 : List UInt8) : Option Bool :=
  (if (decide (v0 = ([98, 121] : List UInt8))) = true then code_modifies.j1 (decide (v0 = ([98, 121] : List UInt8))) else (if (decide (v0 = ([116, 105, 109, 101, 115] : List UInt8))) = true then code_modifies.j1 (decide (v0 = ([116, 105, 109, 101, 115] : List UInt8))) else (if (decide (v0 = ([117, 110, 116, 105, 108] : List UInt8))) = true then code_modifies.j1 (decide (v0 = ([117, 110, 116, 105, 108] : List UInt8))) else (if (decide (v0 = ([101, 109, 105, 116] : List UInt8))) = true then code_modifies.j1 (decide (v0 = ([101, 109, 105, 116] : List UInt8))) else (if (decide (v0 = ([116, 111] : List UInt8))) = true then code_modifies.j1 (decide (v0 = ([116, 111] : List UInt8))) else code_modifies.j1 (decide (v0 = ([102, 114, 111, 109] : List UInt8))))))))

def code_simple.f  (v0 : List UInt8) : Option Int :=
  (if (decide (v0 = ([86] : List UInt8))) = true then some (1) else (if (decide (v0 = ([69] : List UInt8))) = true then some (2) else (if (decide (v0 = ([105, 110, 106, 101, 99, 116] : List UInt8))) = true then some (3) else (if (decide (v0 = ([97, 100, 100, 86] : List UInt8))) = true then some (4) else (if (decide (v0 = ([104, 97, 115, 78, 111, 116] : List UInt8))) = true then some (8) else (if (decide (v0 = ([104, 97, 115, 76, 97, 98, 101, 108] : List UInt8))) = true then some (9) else (if (decide (v0 = ([104, 97, 115, 73, 100] : List UInt8))) = true then some (10) else (if (decide (v0 = ([116, 97, 105, 108] : List UInt8))) = true then some (18) else (if (decide (v0 = ([115, 105, 109, 112, 108, 101, 80, 97, 116, 104] : List UInt8))) = true then some (19) else (if (decide (v0 = ([118, 97, 108, 117, 101, 115] : List UInt8))) = true then some (22) else (if (decide (v0 = ([105, 100] : List UInt8))) = true then some (23) else (if (decide (v0 = ([108, 97, 98, 101, 108] : List UInt8))) = true then some (24) else (if (decide (v0 = ([99, 111, 110, 115, 116, 97, 110, 116] : List UInt8))) = true then some (25) else (if (decide (v0 = ([105, 100, 101, 110, 116, 105, 116, 121] : List UInt8))) = true then some (26) else (if (decide (v0 = ([112, 97, 116, 104] : List UInt8))) = true then some (27) else (if (decide (v0 = ([115, 101, 108, 101, 99, 116] : List UInt8))) = true then some (28) else (if (decide (v0 = ([97, 100, 100] : List UInt8))) = true then some (29) else (if (decide (v0 = ([109, 117, 108] : List UInt8))) = true then some (30) else (if (decide (v0 = ([102, 111, 108, 100] : List UInt8))) = true then some (31) else (if (decide (v0 = ([117, 110, 102, 111, 108, 100] : List UInt8))) = true then some (32) else (if (decide (v0 = ([98, 97, 114, 114, 105, 101, 114] : List UInt8))) = true then some (37) else (if (decide (v0 = ([97, 115] : List UInt8))) = true then some (44) else (if (decide (v0 = ([100, 114, 111, 112] : List UInt8))) = true then some (46) else some (0))))))))))))))))))))))))

def code_numbers.l1 (K : Nat) : Nat → List Int → List ApiArg → Int → Int → Option (List Int)
  | 0, _, _, _, _ => none
  | kl1 + 1, l1, v6, v7, v8 => (if (decide (v8 < v7)) = true then (if ((0 : Int) ≤ v8 ∧ v8 < (List.length v6 : Int)) then (if ((List.length l1 + List.length ([((List.getD v6 (Int.toNat v8) default).V).N] : List Int)) * 8 ≤ 140737488355328 ∧ List.length l1 + List.length ([((List.getD v6 (Int.toNat v8) default).V).N] : List Int) ≤ 140737488355328) then code_numbers.l1 K kl1 (l1 ++ ([((List.getD v6 (Int.toNat v8) default).V).N] : List Int)) v6 v7 (IntKind.wrap .i64 (v8 + 1)) else none) else none) else some (l1))
def code_numbers.f (K : Nat) (v0 : List ApiArg) : Option (List Int) :=
  code_numbers.l1 K K ([] : List Int) v0 (List.length v0 : Int) 0

def val_Copy.j1 (s_val_Copy : ApiValue → Option ApiValue) (K : Nat) (y1 : ApiValue) : Option ApiValue :=
  some (y1)
def val_Copy.l1 (s_val_Copy : ApiValue → Option ApiValue) (K : Nat) : Nat → List ApiValue → ApiValue → List ApiValue → Int → Int → Option ApiValue
  | 0, _, _, _, _, _ => none
  | kl1 + 1, l3, y1, v14, v15, v16 => (if (decide (v16 < v15)) = true then (if ((0 : Int) ≤ v16 ∧ v16 < (List.length v14 : Int)) then (Option.bind (s_val_Copy (List.getD v14 (Int.toNat v16) default)) fun t1 => (if ((0 : Int) ≤ v16 ∧ v16 < (List.length l3 : Int)) then val_Copy.l1 s_val_Copy K kl1 (List.set l3 (Int.toNat v16) t1) y1 v14 v15 (IntKind.wrap .i64 (v16 + 1)) else none)) else none) else val_Copy.j1 s_val_Copy K (⟨y1.Kind, y1.B, y1.N, y1.F, y1.S, l3⟩ : ApiValue))
def val_Copy.b (s_val_Copy : ApiValue → Option ApiValue) (K : Nat) (v0 : ApiValue) : Option ApiValue :=
  (if ((0 : Int) ≤ (List.length v0.L : Int) ∧ ((List.length v0.L : Int) : Int) ≤ 1000000000000) then val_Copy.l1 s_val_Copy K K (List.replicate (Int.toNat (List.length v0.L : Int)) (default : ApiValue)) v0 v0.L (List.length v0.L : Int) 0 else none)
def val_Copy.f : Nat → ApiValue → Option ApiValue
  | 0, _ => none
  | K + 1, v0 => val_Copy.b (val_Copy.f K) K v0

def code_values.l1 (K : Nat) : Nat → List ApiValue → List ApiArg → Int → Int → Option (List ApiValue)
  | 0, _, _, _, _ => none
  | kl1 + 1, l1, v6, v7, v8 => (if (decide (v8 < v7)) = true then (if ((0 : Int) ≤ v8 ∧ v8 < (List.length v6 : Int)) then (Option.bind (val_Copy.f K ((List.getD v6 (Int.toNat v8) default).V)) fun t1 => (if ((List.length l1 + List.length ([t1] : List ApiValue)) * 72 ≤ 140737488355328 ∧ List.length l1 + List.length ([t1] : List ApiValue) ≤ 140737488355328) then code_values.l1 K kl1 (l1 ++ ([t1] : List ApiValue)) v6 v7 (IntKind.wrap .i64 (v8 + 1)) else none)) else none) else some (l1))
def code_values.f (K : Nat) (v0 : List ApiArg) : Option (List ApiValue) :=
  code_values.l1 K K ([] : List ApiValue) v0 (List.length v0 : Int) 0

def code_names.l1 (K : Nat) : Nat → List (List UInt8) → List ApiArg → Int → Int → Option (List (List UInt8))
  | 0, _, _, _, _ => none
  | kl1 + 1, l1, v6, v7, v8 => (if (decide (v8 < v7)) = true then (if ((0 : Int) ≤ v8 ∧ v8 < (List.length v6 : Int)) then (if ((List.length l1 + List.length ([((List.getD v6 (Int.toNat v8) default).V).S] : List (List UInt8))) * 16 ≤ 140737488355328 ∧ List.length l1 + List.length ([((List.getD v6 (Int.toNat v8) default).V).S] : List (List UInt8)) ≤ 140737488355328) then code_names.l1 K kl1 (l1 ++ ([((List.getD v6 (Int.toNat v8) default).V).S] : List (List UInt8))) v6 v7 (IntKind.wrap .i64 (v8 + 1)) else none) else none) else some (l1))
def code_names.f (K : Nat) (v0 : List ApiArg) : Option (List (List UInt8)) :=
  code_names.l1 K K ([] : List (List UInt8)) v0 (List.length v0 : Int) 0

def code_nested.f  (v0 : List UInt8) : Option Int :=
  (if (decide (v0 = ([119, 104, 101, 114, 101] : List UInt8))) = true then some (12) else (if (decide (v0 = ([110, 111, 116] : List UInt8))) = true then some (13) else (if (decide (v0 = ([97, 110, 100] : List UInt8))) = true then some (14) else (if (decide (v0 = ([111, 114] : List UInt8))) = true then some (15) else (if (decide (v0 = ([117, 110, 105, 111, 110] : List UInt8))) = true then some (38) else (if (decide (v0 = ([99, 111, 97, 108, 101, 115, 99, 101] : List UInt8))) = true then some (39) else (if (decide (v0 = ([111, 112, 116, 105, 111, 110, 97, 108] : List UInt8))) = true then some (40) else (if (decide (v0 = ([99, 104, 111, 111, 115, 101] : List UInt8))) = true then some (41) else (if (decide (v0 = ([108, 111, 99, 97, 108] : List UInt8))) = true then some (43) else some (0))))))))))

def code_walk.f  (v0 : List UInt8) : Option (List Int × Bool) :=
  (if (decide (v0 = ([111, 117, 116] : List UInt8))) = true then some (([1, 0] : List Int), true) else (if (decide (v0 = ([105, 110] : List UInt8))) = true then some (([2, 0] : List Int), true) else (if (decide (v0 = ([98, 111, 116, 104] : List UInt8))) = true then some (([3, 0] : List Int), true) else (if (decide (v0 = ([111, 117, 116, 69] : List UInt8))) = true then some (([1, 1] : List Int), true) else (if (decide (v0 = ([105, 110, 69] : List UInt8))) = true then some (([2, 1] : List Int), true) else (if (decide (v0 = ([98, 111, 116, 104, 69] : List UInt8))) = true then some (([3, 1] : List Int), true) else some ([], false)))))))

def code_reduce.f  (v0 : List UInt8) : Option Int :=
  (if (decide (v0 = ([99, 111, 117, 110, 116] : List UInt8))) = true then some (1) else (if (decide (v0 = ([115, 117, 109] : List UInt8))) = true then some (2) else (if (decide (v0 = ([109, 105, 110] : List UInt8))) = true then some (3) else (if (decide (v0 = ([109, 97, 120] : List UInt8))) = true then some (4) else (if (decide (v0 = ([109, 101, 97, 110] : List UInt8))) = true then some (5) else some (0))))))

def code_pred.f (K : Nat) (v0 : ApiArg) : Option ApiPred :=
  (if (decide (v0.Kind = 1)) = true then (Option.bind (val_Copy.f K v0.V) fun t1 => some ((⟨([101, 113] : List UInt8), ([t1] : List ApiValue), []⟩ : ApiPred))) else some (v0.P))

def cm_body.l2 (zB : Y1) (zI : Y2) (zK : Y3) (zO : Y2) (zY : Y5) (zb : Y6) (zR : Y7) (zT : Y2) (zE : Y2) (s_l1 : List ApiIns → List (List ApiIns) → List ApiStep → Int → Int → Option (Int × OCM)) (K : Nat) (l2 : List (List ApiIns)) (l4 : List ApiIns) : Nat → List ApiStep → Int → Int → Int → Option (Int × OCM)
  | 0, _, _, _, _ => none
  | kl2 + 1, v1, v5, v7, v8 => (if (decide ((IntKind.wrap .i64 (v7 + v8)) < (List.length v1 : Int))) = true → ((0 : Int) ≤ (IntKind.wrap .i64 (v7 + v8)) ∧ (IntKind.wrap .i64 (v7 + v8)) < (List.length v1 : Int)) then (Option.bind (if (decide ((IntKind.wrap .i64 (v7 + v8)) < (List.length v1 : Int))) = true then code_modifies.f ((List.getD v1 (Int.toNat (IntKind.wrap .i64 (v7 + v8))) default).Name) else some default) fun t1 => (if ((decide ((IntKind.wrap .i64 (v7 + v8)) < (List.length v1 : Int))) && t1) = true then cm_body.l2 zB zI zK zO zY zb zR zT zE s_l1 K l2 l4 kl2 v1 v5 v7 (IntKind.wrap .i64 (v8 + 1)) else (if ((0 : Int) ≤ v7 ∧ v7 < (List.length v1 : Int)) then (if ((0 : Int) ≤ (IntKind.wrap .i64 (v7 + 1)) ∧ ((IntKind.wrap .i64 (v7 + 1)) : Int) ≤ (IntKind.wrap .i64 (v7 + v8)) ∧ (IntKind.wrap .i64 (v7 + v8)) ≤ (List.length v1 : Int)) then (Option.bind (zI (⟨l2⟩ : OCM) (List.getD v1 (Int.toNat v7) default) (List.take (Int.toNat (IntKind.wrap .i64 (v7 + v8)) - Int.toNat (IntKind.wrap .i64 (v7 + 1))) (List.drop (Int.toNat (IntKind.wrap .i64 (v7 + 1))) v1))) fun t2 => (if ((List.length l4 + List.length ([t2.1] : List ApiIns)) * 176 ≤ 140737488355328 ∧ List.length l4 + List.length ([t2.1] : List ApiIns) ≤ 140737488355328) then s_l1 (l4 ++ ([t2.1] : List ApiIns)) t2.2.out v1 v5 (IntKind.wrap .i64 (v7 + v8)) else none)) else none) else none))) else none)
def cm_body.l1 (zB : Y1) (zI : Y2) (zK : Y3) (zO : Y2) (zY : Y5) (zb : Y6) (zR : Y7) (zT : Y2) (zE : Y2) (K : Nat) : Nat → List ApiIns → List (List ApiIns) → List ApiStep → Int → Int → Option (Int × OCM)
  | 0, _, _, _, _, _ => none
  | kl1 + 1, l4, l2, v1, v5, v7 => (if (decide (v7 < (List.length v1 : Int))) = true then cm_body.l2 zB zI zK zO zY zb zR zT zE (cm_body.l1 zB zI zK zO zY zb zR zT zE K kl1) K l2 l4 K v1 v5 v7 1 else (if ((0 : Int) ≤ v5 ∧ v5 < (List.length l2 : Int)) then some (v5, (⟨(List.set l2 (Int.toNat v5) l4)⟩ : OCM)) else none))
def cm_body.b (zB : Y1) (zI : Y2) (zK : Y3) (zO : Y2) (zY : Y5) (zb : Y6) (zR : Y7) (zT : Y2) (zE : Y2) (K : Nat) (v0 : OCM) (v1 : List ApiStep) : Option (Int × OCM) :=
  (if ((List.length v0.out + List.length ([[]] : List (List ApiIns))) * 24 ≤ 140737488355328 ∧ List.length v0.out + List.length ([[]] : List (List ApiIns)) ≤ 140737488355328) then cm_body.l1 zB zI zK zO zY zb zR zT zE K K ([] : List ApiIns) (v0.out ++ ([[]] : List (List ApiIns))) v1 (List.length v0.out : Int) 0 else none)
def cm_ins.j1 (zB : Y1) (zI : Y2) (zK : Y3) (zO : Y2) (zY : Y5) (zb : Y6) (zR : Y7) (zT : Y2) (zE : Y2) (K : Nat) (v0 : OCM) (y5 : ApiIns) : Option (ApiIns × OCM) :=
  some (y5, v0)
def cm_ins.j3 (zB : Y1) (zI : Y2) (zK : Y3) (zO : Y2) (zY : Y5) (zb : Y6) (zR : Y7) (zT : Y2) (zE : Y2) (K : Nat) (v0 : OCM) (y3 : ApiStep) (y5 : ApiIns) (v34 : Bool) : Option (ApiIns × OCM) :=
  (if v34 = true then (Option.bind (code_values.f K y3.Args) fun t3 => cm_ins.j1 zB zI zK zO zY zb zR zT zE K v0 (⟨y5.Op, y5.S, y5.N, t3, y5.P, y5.Kids, y5.Flag⟩ : ApiIns)) else (Option.bind (code_names.f K y3.Args) fun t4 => cm_ins.j1 zB zI zK zO zY zb zR zT zE K v0 (⟨y5.Op, t4, y5.N, y5.V, y5.P, y5.Kids, y5.Flag⟩ : ApiIns)))
def cm_ins.j2 (zB : Y1) (zI : Y2) (zK : Y3) (zO : Y2) (zY : Y5) (zb : Y6) (zR : Y7) (zT : Y2) (zE : Y2) (K : Nat) (v0 : OCM) (y5 : ApiIns) (y3 : ApiStep) (v20 : Int) (v25 : Bool) : Option (ApiIns × OCM) :=
  (if v25 = true then (Option.bind (code_numbers.f K y3.Args) fun t2 => cm_ins.j1 zB zI zK zO zY zb zR zT zE K v0 (⟨y5.Op, y5.S, t2, y5.V, y5.P, y5.Kids, y5.Flag⟩ : ApiIns)) else (if (decide (v20 = 3)) = true then cm_ins.j3 zB zI zK zO zY zb zR zT zE K v0 y3 y5 (decide (v20 = 3)) else (if (decide (v20 = 25)) = true then cm_ins.j3 zB zI zK zO zY zb zR zT zE K v0 y3 y5 (decide (v20 = 25)) else (if (decide (v20 = 29)) = true then cm_ins.j3 zB zI zK zO zY zb zR zT zE K v0 y3 y5 (decide (v20 = 29)) else cm_ins.j3 zB zI zK zO zY zb zR zT zE K v0 y3 y5 (decide (v20 = 30))))))
def cm_ins.b (zB : Y1) (zI : Y2) (zK : Y3) (zO : Y2) (zY : Y5) (zb : Y6) (zR : Y7) (zT : Y2) (zE : Y2) (K : Nat) (v0 : OCM) (v1 : ApiStep) (v2 : List ApiStep) : Option (ApiIns × OCM) :=
  (Option.bind (code_simple.f v1.Name) fun t1 => (if (!decide (t1 = 0)) = true then (if (decide (t1 = 1)) = true then cm_ins.j2 zB zI zK zO zY zb zR zT zE K v0 (⟨t1, [], [], [], (⟨[], [], []⟩ : ApiPred), [], false⟩ : ApiIns) v1 t1 (decide (t1 = 1)) else (if (decide (t1 = 2)) = true then cm_ins.j2 zB zI zK zO zY zb zR zT zE K v0 (⟨t1, [], [], [], (⟨[], [], []⟩ : ApiPred), [], false⟩ : ApiIns) v1 t1 (decide (t1 = 2)) else (if (decide (t1 = 10)) = true then cm_ins.j2 zB zI zK zO zY zb zR zT zE K v0 (⟨t1, [], [], [], (⟨[], [], []⟩ : ApiPred), [], false⟩ : ApiIns) v1 t1 (decide (t1 = 10)) else cm_ins.j2 zB zI zK zO zY zb zR zT zE K v0 (⟨t1, [], [], [], (⟨[], [], []⟩ : ApiPred), [], false⟩ : ApiIns) v1 t1 (decide (t1 = 18))))) else (Option.bind (code_nested.f v1.Name) fun t5 => (if (!decide (t5 = 0)) = true then (Option.bind (zK v0 v1.Args) fun t6 => some ((⟨t5, [], [], [], (⟨[], [], []⟩ : ApiPred), t6.1, false⟩ : ApiIns), t6.2)) else (Option.bind (code_walk.f v1.Name) fun t7 => (if t7.2 = true then (Option.bind (code_names.f K v1.Args) fun t8 => some ((⟨20, t8, t7.1, [], (⟨[], [], []⟩ : ApiPred), [], false⟩ : ApiIns), v0)) else (Option.bind (code_reduce.f v1.Name) fun t9 => (if (!decide (t9 = 0)) = true then some ((⟨33, [], ([t9] : List Int), [], (⟨[], [], []⟩ : ApiPred), [], false⟩ : ApiIns), v0) else (Option.bind (zO v0 v1 v2) fun t10 => some (t10.1, t10.2))))))))))
def cm_kids.l1 (zB : Y1) (zI : Y2) (zK : Y3) (zO : Y2) (zY : Y5) (zb : Y6) (zR : Y7) (zT : Y2) (zE : Y2) (K : Nat) : Nat → List Int → List (List ApiIns) → List ApiArg → Int → Int → Option (List Int × OCM)
  | 0, _, _, _, _, _ => none
  | kl1 + 1, l3, l2, v8, v9, v10 => (if (decide (v10 < v9)) = true then (if ((0 : Int) ≤ v10 ∧ v10 < (List.length v8 : Int)) then (Option.bind (zB (⟨l2⟩ : OCM) ((List.getD v8 (Int.toNat v10) default).T)) fun t1 => (if ((List.length l3 + List.length ([t1.1] : List Int)) * 8 ≤ 140737488355328 ∧ List.length l3 + List.length ([t1.1] : List Int) ≤ 140737488355328) then cm_kids.l1 zB zI zK zO zY zb zR zT zE K kl1 (l3 ++ ([t1.1] : List Int)) t1.2.out v8 v9 (IntKind.wrap .i64 (v10 + 1)) else none)) else none) else some (l3, (⟨l2⟩ : OCM)))
def cm_kids.b (zB : Y1) (zI : Y2) (zK : Y3) (zO : Y2) (zY : Y5) (zb : Y6) (zR : Y7) (zT : Y2) (zE : Y2) (K : Nat) (v0 : OCM) (v1 : List ApiArg) : Option (List Int × OCM) :=
  cm_kids.l1 zB zI zK zO zY zb zR zT zE K K ([] : List Int) v0.out v1 (List.length v1 : Int) 0
def cm_other.j1 (zB : Y1) (zI : Y2) (zK : Y3) (zO : Y2) (zY : Y5) (zb : Y6) (zR : Y7) (zT : Y2) (zE : Y2) (K : Nat) (v0 : OCM) (v7 : List ApiArg) (v8 : Bool) : Option (ApiIns × OCM) :=
  (if ((0 : Int) ≤ 0 ∧ (0 : Int) ≤ 1 ∧ 1 ≤ (List.length v7 : Int)) then (Option.bind (code_names.f K (List.take (Int.toNat 1 - Int.toNat 0) (List.drop (Int.toNat 0) v7))) fun t12 => (if ((0 : Int) ≤ 1 ∧ (1 : Int) ≤ (List.length v7 : Int) ∧ (List.length v7 : Int) ≤ (List.length v7 : Int)) then (Option.bind (code_values.f K (List.take (Int.toNat (List.length v7 : Int) - Int.toNat 1) (List.drop (Int.toNat 1) v7))) fun t13 => some ((⟨45, t12, [], t13, (⟨[], [], []⟩ : ApiPred), [], v8⟩ : ApiIns), v0)) else none)) else none)
def cm_other.b (zB : Y1) (zI : Y2) (zK : Y3) (zO : Y2) (zY : Y5) (zb : Y6) (zR : Y7) (zT : Y2) (zE : Y2) (K : Nat) (v0 : OCM) (v1 : ApiStep) (v2 : List ApiStep) : Option (ApiIns × OCM) :=
  (if (decide (v1.Name = ([104, 97, 115] : List UInt8))) = true then (if (decide ((List.length v1.Args : Int) = 1)) = true then (Option.bind (code_names.f K v1.Args) fun t1 => some ((⟨6, t1, [], [], (⟨[], [], []⟩ : ApiPred), [], false⟩ : ApiIns), v0)) else (if ((0 : Int) ≤ 0 ∧ (0 : Int) ≤ 1 ∧ 1 ≤ (List.length v1.Args : Int)) then (Option.bind (code_names.f K (List.take (Int.toNat 1 - Int.toNat 0) (List.drop (Int.toNat 0) v1.Args))) fun t2 => (if ((0 : Int) ≤ 1 ∧ 1 < (List.length v1.Args : Int)) then (Option.bind (code_pred.f K (List.getD v1.Args (Int.toNat 1) default)) fun t3 => some ((⟨7, t2, [], [], t3, [], false⟩ : ApiIns), v0)) else none)) else none)) else (if (decide (v1.Name = ([105, 115] : List UInt8))) = true then (if ((0 : Int) ≤ 0 ∧ 0 < (List.length v1.Args : Int)) then (Option.bind (code_pred.f K (List.getD v1.Args (Int.toNat 0) default)) fun t4 => some ((⟨11, [], [], [], t4, [], false⟩ : ApiIns), v0)) else none) else (if (decide (v1.Name = ([108, 105, 109, 105, 116] : List UInt8))) = true then (if ((0 : Int) ≤ 0 ∧ 0 < (List.length v1.Args : Int)) then some ((⟨17, [], ([0, ((List.getD v1.Args (Int.toNat 0) default).V).N] : List Int), [], (⟨[], [], []⟩ : ApiPred), [], false⟩ : ApiIns), v0) else none) else (if (decide (v1.Name = ([115, 107, 105, 112] : List UInt8))) = true then (if ((0 : Int) ≤ 0 ∧ 0 < (List.length v1.Args : Int)) then some ((⟨17, [], ([((List.getD v1.Args (Int.toNat 0) default).V).N, (-1)] : List Int), [], (⟨[], [], []⟩ : ApiPred), [], false⟩ : ApiIns), v0) else none) else (if (decide (v1.Name = ([114, 97, 110, 103, 101] : List UInt8))) = true then (Option.bind (code_numbers.f K v1.Args) fun t5 => some ((⟨17, [], t5, [], (⟨[], [], []⟩ : ApiPred), [], false⟩ : ApiIns), v0)) else (if (decide (v1.Name = ([111, 117, 116, 86] : List UInt8))) = true then some ((⟨21, [], ([1] : List Int), [], (⟨[], [], []⟩ : ApiPred), [], false⟩ : ApiIns), v0) else (if (decide (v1.Name = ([105, 110, 86] : List UInt8))) = true then some ((⟨21, [], ([2] : List Int), [], (⟨[], [], []⟩ : ApiPred), [], false⟩ : ApiIns), v0) else (if (decide (v1.Name = ([98, 111, 116, 104, 86] : List UInt8))) = true then some ((⟨21, [], ([3] : List Int), [], (⟨[], [], []⟩ : ApiPred), [], false⟩ : ApiIns), v0) else (if (decide (v1.Name = ([100, 101, 100, 117, 112] : List UInt8))) = true then (Option.bind (zY v0 v2 1) fun t6 => some ((⟨16, [], [], [], (⟨[], [], []⟩ : ApiPred), t6.1, false⟩ : ApiIns), t6.2)) else (if (decide (v1.Name = ([103, 114, 111, 117, 112] : List UInt8))) = true then (Option.bind (zY v0 v2 2) fun t7 => some ((⟨34, [], [], [], (⟨[], [], []⟩ : ApiPred), t7.1, false⟩ : ApiIns), t7.2)) else (if (decide (v1.Name = ([103, 114, 111, 117, 112, 67, 111, 117, 110, 116] : List UInt8))) = true then (Option.bind (zY v0 v2 1) fun t8 => some ((⟨35, [], [], [], (⟨[], [], []⟩ : ApiPred), t8.1, false⟩ : ApiIns), t8.2)) else (if (decide (v1.Name = ([111, 114, 100, 101, 114] : List UInt8))) = true then (Option.bind (zR v0 v2) fun t9 => some (t9.1, t9.2)) else (if (decide (v1.Name = ([114, 101, 112, 101, 97, 116] : List UInt8))) = true then (Option.bind (zT v0 v1 v2) fun t10 => some (t10.1, t10.2)) else (if (decide (v1.Name = ([97, 100, 100, 69] : List UInt8))) = true then (Option.bind (zE v0 v1 v2) fun t11 => some (t11.1, t11.2)) else (if (decide ((List.length v1.Args : Int) = 3)) = true → ((0 : Int) ≤ 0 ∧ 0 < (List.length v1.Args : Int)) then (if (decide ((List.length v1.Args : Int) = 3)) = true then (if ((0 : Int) ≤ 1 ∧ (1 : Int) ≤ (List.length v1.Args : Int) ∧ (List.length v1.Args : Int) ≤ (List.length v1.Args : Int)) then cm_other.j1 zB zI zK zO zY zb zR zT zE K v0 (List.take (Int.toNat (List.length v1.Args : Int) - Int.toNat 1) (List.drop (Int.toNat 1) v1.Args)) ((decide ((List.length v1.Args : Int) = 3)) && (decide ((((List.getD v1.Args (Int.toNat 0) default).V).S) = ([108, 105, 115, 116] : List UInt8)))) else none) else cm_other.j1 zB zI zK zO zY zb zR zT zE K v0 v1.Args ((decide ((List.length v1.Args : Int) = 3)) && (decide ((((List.getD v1.Args (Int.toNat 0) default).V).S) = ([108, 105, 115, 116] : List UInt8))))) else none)))))))))))))))
def cm_bys.j1 (zB : Y1) (zI : Y2) (zK : Y3) (zO : Y2) (zY : Y5) (zb : Y6) (zR : Y7) (zT : Y2) (zE : Y2) (s_l1 : List Int → List (List ApiIns) → List ApiStep → Int → Int → Option (List Int × OCM)) (K : Nat) (l3 : List Int) (l2 : List (List ApiIns)) (v1 : List ApiStep) (v9 : Int) (v10 : Int) (v11 : Int) : Option (List Int × OCM) :=
  (if ((List.length l3 + List.length ([v9] : List Int)) * 8 ≤ 140737488355328 ∧ List.length l3 + List.length ([v9] : List Int) ≤ 140737488355328) then s_l1 (l3 ++ ([v9] : List Int)) l2 v1 v10 (IntKind.wrap .i64 (v11 + 1)) else none)
def cm_bys.l1 (zB : Y1) (zI : Y2) (zK : Y3) (zO : Y2) (zY : Y5) (zb : Y6) (zR : Y7) (zT : Y2) (zE : Y2) (K : Nat) : Nat → List Int → List (List ApiIns) → List ApiStep → Int → Int → Option (List Int × OCM)
  | 0, _, _, _, _, _ => none
  | kl1 + 1, l3, l2, v1, v10, v11 => (if (decide (v11 < v10)) = true then (if (decide (v11 < (List.length v1 : Int))) = true then (if ((0 : Int) ≤ v11 ∧ v11 < (List.length v1 : Int)) then (Option.bind (zb (⟨l2⟩ : OCM) (List.getD v1 (Int.toNat v11) default)) fun t1 => cm_bys.j1 zB zI zK zO zY zb zR zT zE (cm_bys.l1 zB zI zK zO zY zb zR zT zE K kl1) K l3 t1.2.out v1 t1.1 v10 v11) else none) else cm_bys.j1 zB zI zK zO zY zb zR zT zE (cm_bys.l1 zB zI zK zO zY zb zR zT zE K kl1) K l3 l2 v1 (-1) v10 v11) else some (l3, (⟨l2⟩ : OCM)))
def cm_bys.b (zB : Y1) (zI : Y2) (zK : Y3) (zO : Y2) (zY : Y5) (zb : Y6) (zR : Y7) (zT : Y2) (zE : Y2) (K : Nat) (v0 : OCM) (v1 : List ApiStep) (v2 : Int) : Option (List Int × OCM) :=
  cm_bys.l1 zB zI zK zO zY zb zR zT zE K K ([] : List Int) v0.out v1 v2 0
def cm_by.b (zB : Y1) (zI : Y2) (zK : Y3) (zO : Y2) (zY : Y5) (zb : Y6) (zR : Y7) (zT : Y2) (zE : Y2) (K : Nat) (v0 : OCM) (v1 : ApiStep) : Option (Int × OCM) :=
  (if (decide ((List.length v1.Args : Int) = 0)) = false → ((0 : Int) ≤ 0 ∧ 0 < (List.length v1.Args : Int)) then (if ((decide ((List.length v1.Args : Int) = 0)) || (decide (((List.getD v1.Args (Int.toNat 0) default).Kind) = 4))) = true then some ((-1), v0) else (if ((0 : Int) ≤ 0 ∧ 0 < (List.length v1.Args : Int)) then (if (decide (((List.getD v1.Args (Int.toNat 0) default).Kind) = 3)) = true then (Option.bind (zB v0 ((List.getD v1.Args (Int.toNat 0) default).T)) fun t1 => some (t1.1, t1.2)) else (if ((0 : Int) ≤ 0 ∧ (0 : Int) ≤ 1 ∧ 1 ≤ (List.length v1.Args : Int)) then (Option.bind (code_names.f K (List.take (Int.toNat 1 - Int.toNat 0) (List.drop (Int.toNat 0) v1.Args))) fun t2 => (if ((List.length v0.out + List.length ([([(⟨22, t2, [], [], (⟨[], [], []⟩ : ApiPred), [], false⟩ : ApiIns)] : List ApiIns)] : List (List ApiIns))) * 24 ≤ 140737488355328 ∧ List.length v0.out + List.length ([([(⟨22, t2, [], [], (⟨[], [], []⟩ : ApiPred), [], false⟩ : ApiIns)] : List ApiIns)] : List (List ApiIns)) ≤ 140737488355328) then some ((IntKind.wrap .i64 ((List.length (v0.out ++ ([([(⟨22, t2, [], [], (⟨[], [], []⟩ : ApiPred), [], false⟩ : ApiIns)] : List ApiIns)] : List (List ApiIns))) : Int) - 1)), (⟨(v0.out ++ ([([(⟨22, t2, [], [], (⟨[], [], []⟩ : ApiPred), [], false⟩ : ApiIns)] : List ApiIns)] : List (List ApiIns)))⟩ : OCM)) else none)) else none)) else none)) else none)
def cm_order.j1 (zB : Y1) (zI : Y2) (zK : Y3) (zO : Y2) (zY : Y5) (zb : Y6) (zR : Y7) (zT : Y2) (zE : Y2) (s_l1 : List Int → Int → List (List UInt8) → List ApiValue → ApiPred → List Int → Bool → List (List ApiIns) → List ApiStep → Int → Int → Option (ApiIns × OCM)) (K : Nat) (l2 : List (List ApiIns)) (l5 : List Int) (y4_0 : Int) (y4_1 : List (List UInt8)) (y4_3 : List ApiValue) (y4_4 : ApiPred) (y4_5 : List Int) (y4_6 : Bool) (v1 : List ApiStep) (v7 : Int) (v18 : Int) (v19 : Int) : Option (ApiIns × OCM) :=
  (if ((List.length l5 + List.length ([v7] : List Int)) * 8 ≤ 140737488355328 ∧ List.length l5 + List.length ([v7] : List Int) ≤ 140737488355328) then s_l1 (l5 ++ ([v7] : List Int)) y4_0 y4_1 y4_3 y4_4 y4_5 y4_6 l2 v1 v18 (IntKind.wrap .i64 (v19 + 1)) else none)
def cm_order.l1 (zB : Y1) (zI : Y2) (zK : Y3) (zO : Y2) (zY : Y5) (zb : Y6) (zR : Y7) (zT : Y2) (zE : Y2) (K : Nat) : Nat → List Int → Int → List (List UInt8) → List ApiValue → ApiPred → List Int → Bool → List (List ApiIns) → List ApiStep → Int → Int → Option (ApiIns × OCM)
  | 0, _, _, _, _, _, _, _, _, _, _, _ => none
  | kl1 + 1, l5, y4_0, y4_1, y4_3, y4_4, y4_5, y4_6, l2, v1, v18, v19 => (if (decide (v19 < v18)) = true then (if (decide (v19 < (List.length v1 : Int))) = true then (if ((0 : Int) ≤ v19 ∧ v19 < (List.length v1 : Int)) then (if (decide (0 < (List.length ((List.getD v1 (Int.toNat v19) default).Args) : Int))) = true → ((0 : Int) ≤ (IntKind.wrap .i64 ((List.length ((List.getD v1 (Int.toNat v19) default).Args) : Int) - 1)) ∧ (IntKind.wrap .i64 ((List.length ((List.getD v1 (Int.toNat v19) default).Args) : Int) - 1)) < (List.length ((List.getD v1 (Int.toNat v19) default).Args) : Int)) then (if ((decide (0 < (List.length ((List.getD v1 (Int.toNat v19) default).Args) : Int))) && (decide (((List.getD ((List.getD v1 (Int.toNat v19) default).Args) (Int.toNat (IntKind.wrap .i64 ((List.length ((List.getD v1 (Int.toNat v19) default).Args) : Int) - 1))) default).Kind) = 4))) = true → ((0 : Int) ≤ (IntKind.wrap .i64 ((List.length ((List.getD v1 (Int.toNat v19) default).Args) : Int) - 1)) ∧ (IntKind.wrap .i64 ((List.length ((List.getD v1 (Int.toNat v19) default).Args) : Int) - 1)) < (List.length ((List.getD v1 (Int.toNat v19) default).Args) : Int)) then (if (((decide (0 < (List.length ((List.getD v1 (Int.toNat v19) default).Args) : Int))) && (decide (((List.getD ((List.getD v1 (Int.toNat v19) default).Args) (Int.toNat (IntKind.wrap .i64 ((List.length ((List.getD v1 (Int.toNat v19) default).Args) : Int) - 1))) default).Kind) = 4))) && (decide ((((List.getD ((List.getD v1 (Int.toNat v19) default).Args) (Int.toNat (IntKind.wrap .i64 ((List.length ((List.getD v1 (Int.toNat v19) default).Args) : Int) - 1))) default).V).S) = ([100, 101, 115, 99] : List UInt8)))) = true then cm_order.j1 zB zI zK zO zY zb zR zT zE (cm_order.l1 zB zI zK zO zY zb zR zT zE K kl1) K l2 l5 y4_0 y4_1 y4_3 y4_4 y4_5 y4_6 v1 1 v18 v19 else cm_order.j1 zB zI zK zO zY zb zR zT zE (cm_order.l1 zB zI zK zO zY zb zR zT zE K kl1) K l2 l5 y4_0 y4_1 y4_3 y4_4 y4_5 y4_6 v1 0 v18 v19) else none) else none) else none) else cm_order.j1 zB zI zK zO zY zb zR zT zE (cm_order.l1 zB zI zK zO zY zb zR zT zE K kl1) K l2 l5 y4_0 y4_1 y4_3 y4_4 y4_5 y4_6 v1 0 v18 v19) else some ((⟨y4_0, y4_1, l5, y4_3, y4_4, y4_5, y4_6⟩ : ApiIns), (⟨l2⟩ : OCM)))
def cm_order.b (zB : Y1) (zI : Y2) (zK : Y3) (zO : Y2) (zY : Y5) (zb : Y6) (zR : Y7) (zT : Y2) (zE : Y2) (K : Nat) (v0 : OCM) (v1 : List ApiStep) : Option (ApiIns × OCM) :=
  (Option.bind (zY v0 v1 (if (List.length v1 : Int) < 1 then 1 else (List.length v1 : Int))) fun t1 => cm_order.l1 zB zI zK zO zY zb zR zT zE K K ([] : List Int) 36 [] [] (⟨[], [], []⟩ : ApiPred) t1.1 false t1.2.out v1 (List.length t1.1 : Int) 0)
def cm_repeat.j1 (zB : Y1) (zI : Y2) (zK : Y3) (zO : Y2) (zY : Y5) (zb : Y6) (zR : Y7) (zT : Y2) (zE : Y2) (s_l1 : Int → List (List UInt8) → List ApiValue → ApiPred → Bool → List Int → List (List ApiIns) → List Int → List ApiStep → Int → Int → Option (ApiIns × OCM)) (K : Nat) (y7_0 : Int) (y7_1 : List (List UInt8)) (y7_3 : List ApiValue) (y7_4 : ApiPred) (y7_6 : Bool) (l6 : List Int) (l2 : List (List ApiIns)) (l5 : List Int) (v20 : List ApiStep) (v21 : Int) (v22 : Int) : Option (ApiIns × OCM) :=
  s_l1 y7_0 y7_1 y7_3 y7_4 y7_6 l6 l2 l5 v20 v21 (IntKind.wrap .i64 (v22 + 1))
def cm_repeat.l1 (zB : Y1) (zI : Y2) (zK : Y3) (zO : Y2) (zY : Y5) (zb : Y6) (zR : Y7) (zT : Y2) (zE : Y2) (K : Nat) : Nat → Int → List (List UInt8) → List ApiValue → ApiPred → Bool → List Int → List (List ApiIns) → List Int → List ApiStep → Int → Int → Option (ApiIns × OCM)
  | 0, _, _, _, _, _, _, _, _, _, _, _ => none
  | kl1 + 1, y7_0, y7_1, y7_3, y7_4, y7_6, l6, l2, l5, v20, v21, v22 => (if (decide (v22 < v21)) = true then (if ((0 : Int) ≤ v22 ∧ v22 < (List.length v20 : Int)) then (if (decide (((List.getD v20 (Int.toNat v22) default).Name) = ([116, 105, 109, 101, 115] : List UInt8))) = true then (if ((0 : Int) ≤ 0 ∧ 0 < (List.length ((List.getD v20 (Int.toNat v22) default).Args) : Int)) then (if ((0 : Int) ≤ 0 ∧ 0 < (List.length l5 : Int)) then cm_repeat.j1 zB zI zK zO zY zb zR zT zE (cm_repeat.l1 zB zI zK zO zY zb zR zT zE K kl1) K y7_0 y7_1 y7_3 y7_4 y7_6 l6 l2 (List.set l5 (Int.toNat 0) (((List.getD ((List.getD v20 (Int.toNat v22) default).Args) (Int.toNat 0) default).V).N)) v20 v21 v22 else none) else none) else (if (decide (((List.getD v20 (Int.toNat v22) default).Name) = ([117, 110, 116, 105, 108] : List UInt8))) = true then (if ((0 : Int) ≤ 0 ∧ 0 < (List.length ((List.getD v20 (Int.toNat v22) default).Args) : Int)) then (Option.bind (zB (⟨l2⟩ : OCM) ((List.getD ((List.getD v20 (Int.toNat v22) default).Args) (Int.toNat 0) default).T)) fun t2 => (if ((0 : Int) ≤ 1 ∧ 1 < (List.length l6 : Int)) then cm_repeat.j1 zB zI zK zO zY zb zR zT zE (cm_repeat.l1 zB zI zK zO zY zb zR zT zE K kl1) K y7_0 y7_1 y7_3 y7_4 y7_6 (List.set l6 (Int.toNat 1) t2.1) t2.2.out l5 v20 v21 v22 else none)) else none) else cm_repeat.j1 zB zI zK zO zY zb zR zT zE (cm_repeat.l1 zB zI zK zO zY zb zR zT zE K kl1) K y7_0 y7_1 y7_3 y7_4 true l6 l2 l5 v20 v21 v22)) else none) else some ((⟨y7_0, y7_1, l5, y7_3, y7_4, l6, y7_6⟩ : ApiIns), (⟨l2⟩ : OCM)))
def cm_repeat.b (zB : Y1) (zI : Y2) (zK : Y3) (zO : Y2) (zY : Y5) (zb : Y6) (zR : Y7) (zT : Y2) (zE : Y2) (K : Nat) (v0 : OCM) (v1 : ApiStep) (v2 : List ApiStep) : Option (ApiIns × OCM) :=
  (if ((0 : Int) ≤ 0 ∧ 0 < (List.length v1.Args : Int)) then (Option.bind (zB v0 ((List.getD v1.Args (Int.toNat 0) default).T)) fun t1 => cm_repeat.l1 zB zI zK zO zY zb zR zT zE K K 42 [] [] (⟨[], [], []⟩ : ApiPred) false ([t1.1, (-1)] : List Int) t1.2.out ([(-1)] : List Int) v2 (List.length v2 : Int) 0) else none)
def cm_addE.j1 (zB : Y1) (zI : Y2) (zK : Y3) (zO : Y2) (zY : Y5) (zb : Y6) (zR : Y7) (zT : Y2) (zE : Y2) (s_l1 : Int → List (List UInt8) → List Int → List ApiValue → ApiPred → Bool → List Int → List (List ApiIns) → List ApiStep → Int → Int → Option (ApiIns × OCM)) (K : Nat) (l2 : List (List ApiIns)) (y6_0 : Int) (y6_1 : List (List UInt8)) (y6_2 : List Int) (y6_3 : List ApiValue) (y6_4 : ApiPred) (y6_6 : Bool) (l5 : List Int) (v16 : List ApiStep) (v17 : Int) (v18 : Int) : Option (ApiIns × OCM) :=
  s_l1 y6_0 y6_1 y6_2 y6_3 y6_4 y6_6 l5 l2 v16 v17 (IntKind.wrap .i64 (v18 + 1))
def cm_addE.l1 (zB : Y1) (zI : Y2) (zK : Y3) (zO : Y2) (zY : Y5) (zb : Y6) (zR : Y7) (zT : Y2) (zE : Y2) (K : Nat) : Nat → Int → List (List UInt8) → List Int → List ApiValue → ApiPred → Bool → List Int → List (List ApiIns) → List ApiStep → Int → Int → Option (ApiIns × OCM)
  | 0, _, _, _, _, _, _, _, _, _, _, _ => none
  | kl1 + 1, y6_0, y6_1, y6_2, y6_3, y6_4, y6_6, l5, l2, v16, v17, v18 => (if (decide (v18 < v17)) = true then (if ((0 : Int) ≤ v18 ∧ v18 < (List.length v16 : Int)) then (if ((0 : Int) ≤ 0 ∧ 0 < (List.length ((List.getD v16 (Int.toNat v18) default).Args) : Int)) then (Option.bind (zB (⟨l2⟩ : OCM) ((List.getD ((List.getD v16 (Int.toNat v18) default).Args) (Int.toNat 0) default).T)) fun t2 => (if (decide (((List.getD v16 (Int.toNat v18) default).Name) = ([116, 111] : List UInt8))) = true then (if ((0 : Int) ≤ 0 ∧ 0 < (List.length l5 : Int)) then cm_addE.j1 zB zI zK zO zY zb zR zT zE (cm_addE.l1 zB zI zK zO zY zb zR zT zE K kl1) K t2.2.out y6_0 y6_1 y6_2 y6_3 y6_4 y6_6 (List.set l5 (Int.toNat 0) t2.1) v16 v17 v18 else none) else (if ((0 : Int) ≤ 1 ∧ 1 < (List.length l5 : Int)) then cm_addE.j1 zB zI zK zO zY zb zR zT zE (cm_addE.l1 zB zI zK zO zY zb zR zT zE K kl1) K t2.2.out y6_0 y6_1 y6_2 y6_3 y6_4 y6_6 (List.set l5 (Int.toNat 1) t2.1) v16 v17 v18 else none))) else none) else none) else some ((⟨y6_0, y6_1, y6_2, y6_3, y6_4, l5, y6_6⟩ : ApiIns), (⟨l2⟩ : OCM)))
def cm_addE.b (zB : Y1) (zI : Y2) (zK : Y3) (zO : Y2) (zY : Y5) (zb : Y6) (zR : Y7) (zT : Y2) (zE : Y2) (K : Nat) (v0 : OCM) (v1 : ApiStep) (v2 : List ApiStep) : Option (ApiIns × OCM) :=
  (Option.bind (code_names.f K v1.Args) fun t1 => cm_addE.l1 zB zI zK zO zY zb zR zT zE K K 5 t1 [] [] (⟨[], [], []⟩ : ApiPred) false ([(-1), (-1)] : List Int) v0.out v2 (List.length v2 : Int) 0)
mutual
def cm_body.f : Nat → OCM → List ApiStep → Option (Int × OCM)
  | 0, _, _ => none
  | K + 1, v0, v1 => cm_body.b (cm_body.f K) (cm_ins.f K) (cm_kids.f K) (cm_other.f K) (cm_bys.f K) (cm_by.f K) (cm_order.f K) (cm_repeat.f K) (cm_addE.f K) K v0 v1
def cm_ins.f : Nat → OCM → ApiStep → List ApiStep → Option (ApiIns × OCM)
  | 0, _, _, _ => none
  | K + 1, v0, v1, v2 => cm_ins.b (cm_body.f K) (cm_ins.f K) (cm_kids.f K) (cm_other.f K) (cm_bys.f K) (cm_by.f K) (cm_order.f K) (cm_repeat.f K) (cm_addE.f K) K v0 v1 v2
def cm_kids.f : Nat → OCM → List ApiArg → Option (List Int × OCM)
  | 0, _, _ => none
  | K + 1, v0, v1 => cm_kids.b (cm_body.f K) (cm_ins.f K) (cm_kids.f K) (cm_other.f K) (cm_bys.f K) (cm_by.f K) (cm_order.f K) (cm_repeat.f K) (cm_addE.f K) K v0 v1
def cm_other.f : Nat → OCM → ApiStep → List ApiStep → Option (ApiIns × OCM)
  | 0, _, _, _ => none
  | K + 1, v0, v1, v2 => cm_other.b (cm_body.f K) (cm_ins.f K) (cm_kids.f K) (cm_other.f K) (cm_bys.f K) (cm_by.f K) (cm_order.f K) (cm_repeat.f K) (cm_addE.f K) K v0 v1 v2
def cm_bys.f : Nat → OCM → List ApiStep → Int → Option (List Int × OCM)
  | 0, _, _, _ => none
  | K + 1, v0, v1, v2 => cm_bys.b (cm_body.f K) (cm_ins.f K) (cm_kids.f K) (cm_other.f K) (cm_bys.f K) (cm_by.f K) (cm_order.f K) (cm_repeat.f K) (cm_addE.f K) K v0 v1 v2
def cm_by.f : Nat → OCM → ApiStep → Option (Int × OCM)
  | 0, _, _ => none
  | K + 1, v0, v1 => cm_by.b (cm_body.f K) (cm_ins.f K) (cm_kids.f K) (cm_other.f K) (cm_bys.f K) (cm_by.f K) (cm_order.f K) (cm_repeat.f K) (cm_addE.f K) K v0 v1
def cm_order.f : Nat → OCM → List ApiStep → Option (ApiIns × OCM)
  | 0, _, _ => none
  | K + 1, v0, v1 => cm_order.b (cm_body.f K) (cm_ins.f K) (cm_kids.f K) (cm_other.f K) (cm_bys.f K) (cm_by.f K) (cm_order.f K) (cm_repeat.f K) (cm_addE.f K) K v0 v1
def cm_repeat.f : Nat → OCM → ApiStep → List ApiStep → Option (ApiIns × OCM)
  | 0, _, _, _ => none
  | K + 1, v0, v1, v2 => cm_repeat.b (cm_body.f K) (cm_ins.f K) (cm_kids.f K) (cm_other.f K) (cm_bys.f K) (cm_by.f K) (cm_order.f K) (cm_repeat.f K) (cm_addE.f K) K v0 v1 v2
def cm_addE.f : Nat → OCM → ApiStep → List ApiStep → Option (ApiIns × OCM)
  | 0, _, _, _ => none
  | K + 1, v0, v1, v2 => cm_addE.b (cm_body.f K) (cm_ins.f K) (cm_kids.f K) (cm_other.f K) (cm_bys.f K) (cm_by.f K) (cm_order.f K) (cm_repeat.f K) (cm_addE.f K) K v0 v1 v2
end

def code_Compile.f (K : Nat) (v0 : List ApiStep) : Option (ApiProg × Int) :=
  (Option.bind (check_Check.f K v0) fun t1 => (if (!decide (t1 = 0)) = true then some ((⟨[]⟩ : ApiProg), t1) else (Option.bind (cm_body.f K (⟨([] : List (List ApiIns))⟩ : OCM) v0) fun t2 => some ((⟨t2.2.out⟩ : ApiProg), 0))))

def w15_awake.f (K : Nat)  : Option Bool :=
  (Option.bind (r12_Parse.f K ([103, 46, 86, 40, 41, 46, 111, 117, 116, 40, 39, 97, 39, 41] : List UInt8)) fun t1 => (Option.bind (code_Compile.f K t1.1) fun t2 => (if (((decide (t1.2.2 = 0)) && (decide (t2.2 = 0))) && (decide ((List.length t2.1.Bodies : Int) = 1))) = true → ((0 : Int) ≤ 0 ∧ 0 < (List.length t2.1.Bodies : Int)) then (if ((((decide (t1.2.2 = 0)) && (decide (t2.2 = 0))) && (decide ((List.length t2.1.Bodies : Int) = 1))) && (decide ((List.length (List.getD t2.1.Bodies (Int.toNat 0) default) : Int) = 2))) = true → ((0 : Int) ≤ 0 ∧ 0 < (List.length t2.1.Bodies : Int)) then (if ((((decide (t1.2.2 = 0)) && (decide (t2.2 = 0))) && (decide ((List.length t2.1.Bodies : Int) = 1))) && (decide ((List.length (List.getD t2.1.Bodies (Int.toNat 0) default) : Int) = 2))) = true → ((0 : Int) ≤ 1 ∧ 1 < (List.length (List.getD t2.1.Bodies (Int.toNat 0) default) : Int)) then some ((((((decide (t1.2.2 = 0)) && (decide (t2.2 = 0))) && (decide ((List.length t2.1.Bodies : Int) = 1))) && (decide ((List.length (List.getD t2.1.Bodies (Int.toNat 0) default) : Int) = 2))) && (decide (((List.getD (List.getD t2.1.Bodies (Int.toNat 0) default) (Int.toNat 1) default).Op) = 20)))) else none) else none) else none)))

def w15_CodeBodies.j1 (s_l1 : List Int → ApiProg → List ApiStep → Int → Option Bool) (s_l2 : List Int → List ApiStep → Int → Int → Option Bool) (s_l3 : List Int → List ApiStep → Int → Int → List Int → Int → Option Bool) (K : Nat) (y1 : ApiProg) (l2 : List Int) (v3 : List ApiStep) (v9 : Int) (v10 : Int) (v11 : List Int) (v12 : Int) : Option Bool :=
  s_l3 l2 v3 v9 v10 v11 (IntKind.wrap .i64 (v12 + 1))
def w15_CodeBodies.l3 (s_l1 : List Int → ApiProg → List ApiStep → Int → Option Bool) (s_l2 : List Int → List ApiStep → Int → Int → Option Bool) (K : Nat) (y1 : ApiProg) : Nat → List Int → List ApiStep → Int → Int → List Int → Int → Option Bool
  | 0, _, _, _, _, _, _ => none
  | kl3 + 1, l2, v3, v9, v10, v11, v12 => (if (decide (v12 < (List.length v11 : Int))) = true then (if ((0 : Int) ≤ v12 ∧ v12 < (List.length v11 : Int)) then (if (decide ((List.getD v11 (Int.toNat v12) default) = (-1))) = true then w15_CodeBodies.j1 s_l1 s_l2 (w15_CodeBodies.l3 s_l1 s_l2 K y1 kl3) K y1 l2 v3 v9 v10 v11 v12 else (if ((0 : Int) ≤ v12 ∧ v12 < (List.length v11 : Int)) then (if (decide ((List.getD v11 (Int.toNat v12) default) ≤ v9)) = false → ((0 : Int) ≤ v12 ∧ v12 < (List.length v11 : Int)) then (if ((decide ((List.getD v11 (Int.toNat v12) default) ≤ v9)) || (decide ((List.length l2 : Int) ≤ (List.getD v11 (Int.toNat v12) default)))) = true then some (false) else (if ((0 : Int) ≤ v12 ∧ v12 < (List.length v11 : Int)) then (if ((0 : Int) ≤ (List.getD v11 (Int.toNat v12) default) ∧ (List.getD v11 (Int.toNat v12) default) < (List.length l2 : Int)) then (if ((0 : Int) ≤ (List.getD v11 (Int.toNat v12) default) ∧ (List.getD v11 (Int.toNat v12) default) < (List.length l2 : Int)) then w15_CodeBodies.j1 s_l1 s_l2 (w15_CodeBodies.l3 s_l1 s_l2 K y1 kl3) K y1 (List.set l2 (Int.toNat (List.getD v11 (Int.toNat v12) default)) (IntKind.wrap .i64 ((List.getD l2 (Int.toNat (List.getD v11 (Int.toNat v12) default)) default) + 1))) v3 v9 v10 v11 v12 else none) else none) else none)) else none) else none)) else none) else s_l2 l2 v3 v9 (IntKind.wrap .i64 (v10 + 1)))
def w15_CodeBodies.l2 (s_l1 : List Int → ApiProg → List ApiStep → Int → Option Bool) (K : Nat) (y1 : ApiProg) : Nat → List Int → List ApiStep → Int → Int → Option Bool
  | 0, _, _, _, _ => none
  | kl2 + 1, l2, v3, v9, v10 => (if ((0 : Int) ≤ v9 ∧ v9 < (List.length y1.Bodies : Int)) then (if (decide (v10 < (List.length (List.getD y1.Bodies (Int.toNat v9) default) : Int))) = true then (if ((0 : Int) ≤ v9 ∧ v9 < (List.length y1.Bodies : Int)) then (if ((0 : Int) ≤ v10 ∧ v10 < (List.length (List.getD y1.Bodies (Int.toNat v9) default) : Int)) then w15_CodeBodies.l3 s_l1 (w15_CodeBodies.l2 s_l1 K y1 kl2) K y1 K l2 v3 v9 v10 ((List.getD (List.getD y1.Bodies (Int.toNat v9) default) (Int.toNat v10) default).Kids) 0 else none) else none) else s_l1 l2 y1 v3 (IntKind.wrap .i64 (v9 + 1))) else none)
def w15_CodeBodies.j2 (s_l1 : List Int → ApiProg → List ApiStep → Int → Option Bool) (s_l4 : List ApiStep → Int → Option Bool) (s_l5 : List ApiStep → Int → Int → Option Bool) (K : Nat) (y1 : ApiProg) (v3 : List ApiStep) (v14 : Int) (v15 : Int) : Option Bool :=
  s_l5 v3 v14 (IntKind.wrap .i64 (v15 + 1))
def w15_CodeBodies.j3 (s_l1 : List Int → ApiProg → List ApiStep → Int → Option Bool) (s_l4 : List ApiStep → Int → Option Bool) (s_l5 : List ApiStep → Int → Int → Option Bool) (K : Nat) (y1 : ApiProg) (v3 : List ApiStep) (v14 : Int) (v15 : Int) (v145 : Bool) : Option Bool :=
  (if v145 = true then w15_CodeBodies.j2 s_l1 s_l4 s_l5 K y1 v3 v14 v15 else w15_CodeBodies.j2 s_l1 s_l4 s_l5 K y1 v3 (IntKind.wrap .i64 (v14 + 1)) v15)
def w15_CodeBodies.l5 (s_l1 : List Int → ApiProg → List ApiStep → Int → Option Bool) (s_l4 : List ApiStep → Int → Option Bool) (K : Nat) (y1 : ApiProg) : Nat → List ApiStep → Int → Int → Option Bool
  | 0, _, _, _ => none
  | kl5 + 1, v3, v14, v15 => (if (decide (v15 < (List.length v3 : Int))) = true then (if ((0 : Int) ≤ v15 ∧ v15 < (List.length v3 : Int)) then (if (decide (((List.getD v3 (Int.toNat v15) default).Name) = ([98, 121] : List UInt8))) = true then w15_CodeBodies.j3 s_l1 s_l4 (w15_CodeBodies.l5 s_l1 s_l4 K y1 kl5) K y1 v3 v14 v15 (decide (((List.getD v3 (Int.toNat v15) default).Name) = ([98, 121] : List UInt8))) else (if (decide (((List.getD v3 (Int.toNat v15) default).Name) = ([116, 105, 109, 101, 115] : List UInt8))) = true then w15_CodeBodies.j3 s_l1 s_l4 (w15_CodeBodies.l5 s_l1 s_l4 K y1 kl5) K y1 v3 v14 v15 (decide (((List.getD v3 (Int.toNat v15) default).Name) = ([116, 105, 109, 101, 115] : List UInt8))) else (if (decide (((List.getD v3 (Int.toNat v15) default).Name) = ([117, 110, 116, 105, 108] : List UInt8))) = true then w15_CodeBodies.j3 s_l1 s_l4 (w15_CodeBodies.l5 s_l1 s_l4 K y1 kl5) K y1 v3 v14 v15 (decide (((List.getD v3 (Int.toNat v15) default).Name) = ([117, 110, 116, 105, 108] : List UInt8))) else (if (decide (((List.getD v3 (Int.toNat v15) default).Name) = ([101, 109, 105, 116] : List UInt8))) = true then w15_CodeBodies.j3 s_l1 s_l4 (w15_CodeBodies.l5 s_l1 s_l4 K y1 kl5) K y1 v3 v14 v15 (decide (((List.getD v3 (Int.toNat v15) default).Name) = ([101, 109, 105, 116] : List UInt8))) else (if (decide (((List.getD v3 (Int.toNat v15) default).Name) = ([116, 111] : List UInt8))) = true then w15_CodeBodies.j3 s_l1 s_l4 (w15_CodeBodies.l5 s_l1 s_l4 K y1 kl5) K y1 v3 v14 v15 (decide (((List.getD v3 (Int.toNat v15) default).Name) = ([116, 111] : List UInt8))) else w15_CodeBodies.j3 s_l1 s_l4 (w15_CodeBodies.l5 s_l1 s_l4 K y1 kl5) K y1 v3 v14 v15 (decide (((List.getD v3 (Int.toNat v15) default).Name) = ([102, 114, 111, 109] : List UInt8)))))))) else none) else (if ((0 : Int) ≤ 0 ∧ 0 < (List.length y1.Bodies : Int)) then some ((decide ((List.length (List.getD y1.Bodies (Int.toNat 0) default) : Int) = v14))) else none))
def w15_CodeBodies.l4 (s_l1 : List Int → ApiProg → List ApiStep → Int → Option Bool) (K : Nat) (l2 : List Int) (y1 : ApiProg) : Nat → List ApiStep → Int → Option Bool
  | 0, _, _ => none
  | kl4 + 1, v3, v13 => (if (decide (v13 < (List.length l2 : Int))) = true then (if ((0 : Int) ≤ v13 ∧ v13 < (List.length l2 : Int)) then (if (!decide ((List.getD l2 (Int.toNat v13) default) = 1)) = true then some (false) else w15_CodeBodies.l4 s_l1 K l2 y1 kl4 v3 (IntKind.wrap .i64 (v13 + 1))) else none) else w15_CodeBodies.l5 s_l1 (w15_CodeBodies.l4 s_l1 K l2 y1 kl4) K y1 K v3 0 0)
def w15_CodeBodies.l1 (K : Nat) : Nat → List Int → ApiProg → List ApiStep → Int → Option Bool
  | 0, _, _, _, _ => none
  | kl1 + 1, l2, y1, v3, v9 => (if (decide (v9 < (List.length y1.Bodies : Int))) = true then w15_CodeBodies.l2 (w15_CodeBodies.l1 K kl1) K y1 K l2 v3 v9 0 else w15_CodeBodies.l4 (w15_CodeBodies.l1 K kl1) K l2 y1 K v3 1)
def w15_CodeBodies.f (K : Nat) (v0 : List UInt8) : Option Bool :=
  (Option.bind (r12_Parse.f K v0) fun t1 => (Option.bind (w15_awake.f K) fun t2 => (if ((!t2) || (!decide (t1.2.2 = 0))) = true then (Option.bind (w15_awake.f K) fun t3 => some (t3)) else (Option.bind (code_Compile.f K t1.1) fun t4 => (if (((!decide (t4.2 = 0)) || (decide ((List.length t4.1.Bodies : Int) = 0))) || (decide (1000 < (List.length t4.1.Bodies : Int)))) = true then some (((!decide (t4.2 = 0)) && (decide ((List.length t4.1.Bodies : Int) = 0)))) else (if ((0 : Int) ≤ (List.length t4.1.Bodies : Int) ∧ ((List.length t4.1.Bodies : Int) : Int) ≤ 1000000000000) then w15_CodeBodies.l1 K K (List.replicate (Int.toNat (List.length t4.1.Bodies : Int)) (0 : Int)) t4.1 t1.1 0 else none))))))
end Go.Proofs.Ytbjbgodcenopnaa

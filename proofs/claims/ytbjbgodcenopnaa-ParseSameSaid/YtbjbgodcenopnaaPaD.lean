/- Written by a program of this session (gen.py): functions of the program as plain Lean functions. -/
import Derived.Test.YtbjbgodcenopnaaAvMoreD
import Derived.Test.YtbjbgodcenopnaaHrd
namespace Go.Proofs.Ytbjbgodcenopnaa
set_option linter.unusedVariables false
set_option maxRecDepth 20000
set_option maxHeartbeats 10000000
def c_bool (x : Bool) : List FW.AV := [.lit (.bool x)]
def c_f64 (x : Nat) : List FW.AV := [.lit (.float .f64 x)]
def c_str (x : List UInt8) : List FW.AV := [.lit (.string (FW.B x))]
def c_i8 (x : Int) : List FW.AV := [.lit (.int .i8 x)]
def c_i16 (x : Int) : List FW.AV := [.lit (.int .i16 x)]
def c_i32 (x : Int) : List FW.AV := [.lit (.int .i32 x)]
def c_i64 (x : Int) : List FW.AV := [.lit (.int .i64 x)]
def c_u8 (x : Int) : List FW.AV := [.lit (.int .u8 x)]
def c_u16 (x : Int) : List FW.AV := [.lit (.int .u16 x)]
def c_u32 (x : Int) : List FW.AV := [.lit (.int .u32 x)]
def c_u64 (x : Int) : List FW.AV := [.lit (.int .u64 x)]
structure ApiValue where
  Kind : Int
  B : Bool
  N : Int
  F : Nat
  S : List UInt8
  L : List ApiValue
instance : Inhabited ApiValue := ⟨⟨default, default, default, default, default, []⟩⟩
mutual
def ApiValue.cellsR : ApiValue → List FW.AV
  | ⟨x0, x1, x2, x3, x4, x5⟩ => [.lit (.int .i64 x0), .lit (.bool x1), .lit (.int .i64 x2), .lit (.float .f64 x3), .lit (.string (FW.B x4)), .row (r_ApiValue_cells x5)]
def r_ApiValue_cells : List ApiValue → List (List FW.AV)
  | [] => []
  | x :: r => ApiValue.cellsR x :: r_ApiValue_cells r
end
def ApiValue.cells (x : ApiValue) : List FW.AV := [.lit (.int .i64 x.Kind), .lit (.bool x.B), .lit (.int .i64 x.N), .lit (.float .f64 x.F), .lit (.string (FW.B x.S)), .row (r_ApiValue_cells x.L)]
theorem ApiValue.cellsR_eq (x : ApiValue) : x.cellsR = x.cells := by cases x; simp [ApiValue.cellsR, ApiValue.cells]
theorem r_ApiValue_cells_eq : ∀ l, r_ApiValue_cells l = l.map ApiValue.cells
  | [] => by simp [r_ApiValue_cells]
  | x :: r => by simp [r_ApiValue_cells, ApiValue.cellsR_eq, r_ApiValue_cells_eq r]
structure ApiWord where
  Kind : Int
  S : List UInt8
  N : Int
  F : Nat
  At : Int
  deriving Inhabited
def ApiWord.cells (x : ApiWord) : List FW.AV := [.lit (.int .i64 x.Kind), .lit (.string (FW.B x.S)), .lit (.int .i64 x.N), .lit (.float .f64 x.F), .lit (.int .i64 x.At)]
structure ApiPred where
  Op : List UInt8
  L : List ApiValue
  Kids : List ApiPred
instance : Inhabited ApiPred := ⟨⟨default, [], []⟩⟩
mutual
def ApiPred.cellsR : ApiPred → List FW.AV
  | ⟨x0, x1, x2⟩ => [.lit (.string (FW.B x0)), .row (r_ApiValue_cells x1), .row (r_ApiPred_cells x2)]
def r_ApiPred_cells : List ApiPred → List (List FW.AV)
  | [] => []
  | x :: r => ApiPred.cellsR x :: r_ApiPred_cells r
end
def ApiPred.cells (x : ApiPred) : List FW.AV := [.lit (.string (FW.B x.Op)), .row (r_ApiValue_cells x.L), .row (r_ApiPred_cells x.Kids)]
theorem ApiPred.cellsR_eq (x : ApiPred) : x.cellsR = x.cells := by cases x; simp [ApiPred.cellsR, ApiPred.cells]
theorem r_ApiPred_cells_eq : ∀ l, r_ApiPred_cells l = l.map ApiPred.cells
  | [] => by simp [r_ApiPred_cells]
  | x :: r => by simp [r_ApiPred_cells, ApiPred.cellsR_eq, r_ApiPred_cells_eq r]
mutual
structure ApiStep where
  Name : List UInt8
  Args : List ApiArg
structure ApiArg where
  Kind : Int
  V : ApiValue
  P : ApiPred
  T : List ApiStep
end
instance : Inhabited ApiStep := ⟨⟨default, []⟩⟩
instance : Inhabited ApiArg := ⟨⟨default, default, default, []⟩⟩
mutual
def ApiStep.cellsR : ApiStep → List FW.AV
  | ⟨x0, x1⟩ => [.lit (.string (FW.B x0)), .row (r_ApiArg_cells x1)]
def r_ApiStep_cells : List ApiStep → List (List FW.AV)
  | [] => []
  | x :: r => ApiStep.cellsR x :: r_ApiStep_cells r
def ApiArg.cellsR : ApiArg → List FW.AV
  | ⟨x0, x1, x2, x3⟩ => [.lit (.int .i64 x0)] ++ ApiValue.cells x1 ++ ApiPred.cells x2 ++ [.row (r_ApiStep_cells x3)]
def r_ApiArg_cells : List ApiArg → List (List FW.AV)
  | [] => []
  | x :: r => ApiArg.cellsR x :: r_ApiArg_cells r
end
def ApiStep.cells (x : ApiStep) : List FW.AV := [.lit (.string (FW.B x.Name)), .row (r_ApiArg_cells x.Args)]
theorem ApiStep.cellsR_eq (x : ApiStep) : x.cellsR = x.cells := by cases x; simp [ApiStep.cellsR, ApiStep.cells]
theorem r_ApiStep_cells_eq : ∀ l, r_ApiStep_cells l = l.map ApiStep.cells
  | [] => by simp [r_ApiStep_cells]
  | x :: r => by simp [r_ApiStep_cells, ApiStep.cellsR_eq, r_ApiStep_cells_eq r]
def ApiArg.cells (x : ApiArg) : List FW.AV := [.lit (.int .i64 x.Kind)] ++ ApiValue.cells x.V ++ ApiPred.cells x.P ++ [.row (r_ApiStep_cells x.T)]
theorem ApiArg.cellsR_eq (x : ApiArg) : x.cellsR = x.cells := by cases x; simp [ApiArg.cellsR, ApiArg.cells]
theorem r_ApiArg_cells_eq : ∀ l, r_ApiArg_cells l = l.map ApiArg.cells
  | [] => by simp [r_ApiArg_cells]
  | x :: r => by simp [r_ApiArg_cells, ApiArg.cellsR_eq, r_ApiArg_cells_eq r]
structure ParseFault where
  at_ : Int
  e : Int
  deriving Inhabited
def ParseFault.cells (x : ParseFault) : List FW.AV := [.lit (.int .i64 x.at_), .lit (.int .i64 x.e)]
def r_ApiWord_cells (l : List ApiWord) : List (List FW.AV) := l.map ApiWord.cells
theorem r_ApiWord_cells_eq : ∀ l, r_ApiWord_cells l = l.map ApiWord.cells := fun _ => rfl
structure OVarcsApiStepcells_22 where
  v : List ApiStep
  deriving Inhabited
abbrev OVarcsApiStepcells_22.items (b : Nat) (x : OVarcsApiStepcells_22) : List FW.It := [FW.blk b 22 [.row (r_ApiStep_cells x.v)]]
structure OVarci64_3 where
  v : Int
  deriving Inhabited
abbrev OVarci64_3.items (b : Nat) (x : OVarci64_3) : List FW.It := [FW.blk b 3 [.lit (.int .i64 x.v)]]
structure OVarci64_23 where
  v : Int
  deriving Inhabited
abbrev OVarci64_23.items (b : Nat) (x : OVarci64_23) : List FW.It := [FW.blk b 23 [.lit (.int .i64 x.v)]]
structure OParseParser where
  l : List ApiWord
  i : Int
  deep : Int
  steps : Int
  deriving Inhabited
abbrev OParseParser.items (b : Nat) (x : OParseParser) : List FW.It := [FW.blk b 87 [.row (r_ApiWord_cells x.l), .lit (.int .i64 x.i), .lit (.int .i64 x.deep), .lit (.int .i64 x.steps)]]
structure OVarPParseParser where

  deriving Inhabited
abbrev OVarPParseParser.items (b : Nat) (p0 : Nat) (x : OVarPParseParser) : List FW.It := [FW.blk b 84 [.lit (.pointer (some ⟨p0, 0, none⟩))]]
def parse_parser_all_1_idle.f  (v0 : OVarcsApiStepcells_22) (v1 : OVarci64_3) (v2 : OVarci64_23) : Option (OVarcsApiStepcells_22 × OVarci64_3 × OVarci64_23) :=
  some (v0, v1, v2)

def parse_parser_all_1_pan.f  (e0 : Int × Int) (v0 : OVarcsApiStepcells_22) (v1 : OVarci64_3) (v2 : OVarci64_23) : Option (OVarcsApiStepcells_22 × OVarci64_3 × OVarci64_23) :=
  some ((⟨[]⟩ : OVarcsApiStepcells_22), (⟨e0.1⟩ : OVarci64_3), (⟨e0.2⟩ : OVarci64_23))

def parse_parser_stop.f  (v0 : OParseParser) (v1 : Int) : Option (Except (Int × Int) OParseParser) :=
  (if ((0 : Int) ≤ v0.i ∧ v0.i < (List.length v0.l : Int)) then some (.error ((List.getD v0.l (Int.toNat v0.i) default).At, v1)) else none)

def parse_parser_name.j1  (y1_0 : List ApiWord) (y1_1 : Int) (y1_2 : Int) (y1_3 : Int) (y2 : ApiWord) : Option (Except (Int × Int) (List UInt8 × OParseParser)) :=
  some (.ok (y2.S, (⟨y1_0, (IntKind.wrap .i64 (y1_1 + 1)), y1_2, y1_3⟩ : OParseParser)))
def parse_parser_name.f  (v0 : OParseParser) : Option (Except (Int × Int) (List UInt8 × OParseParser)) :=
  (if ((0 : Int) ≤ v0.i ∧ v0.i < (List.length v0.l : Int)) then (if (!decide (((List.getD v0.l (Int.toNat v0.i) default).Kind) = 1)) = false → ((0 : Int) ≤ 0 ∧ 0 < (List.length ((List.getD v0.l (Int.toNat v0.i) default).S) : Int)) then (if (decide (48 ≤ (FW.bt ((List.getD v0.l (Int.toNat v0.i) default).S) 0))) = true → (!decide (((List.getD v0.l (Int.toNat v0.i) default).Kind) = 1)) = false → ((0 : Int) ≤ 0 ∧ 0 < (List.length ((List.getD v0.l (Int.toNat v0.i) default).S) : Int)) then (if ((!decide (((List.getD v0.l (Int.toNat v0.i) default).Kind) = 1)) || ((decide (48 ≤ (FW.bt ((List.getD v0.l (Int.toNat v0.i) default).S) 0))) && (decide ((FW.bt ((List.getD v0.l (Int.toNat v0.i) default).S) 0) ≤ 57)))) = true then (FW.bindX (parse_parser_stop.f v0 120) fun t1 => parse_parser_name.j1 t1.l t1.i t1.deep t1.steps (List.getD v0.l (Int.toNat v0.i) default)) else parse_parser_name.j1 v0.l v0.i v0.deep v0.steps (List.getD v0.l (Int.toNat v0.i) default)) else none) else none) else none)

def parse_parser_sign.f  (v0 : OParseParser) (v1 : List UInt8) : Option (Bool × OParseParser) :=
  (if ((0 : Int) ≤ v0.i ∧ v0.i < (List.length v0.l : Int)) then (if ((!decide (((List.getD v0.l (Int.toNat v0.i) default).Kind) = 5)) || (!decide (((List.getD v0.l (Int.toNat v0.i) default).S) = v1))) = true then some (false, v0) else some (true, (⟨v0.l, (IntKind.wrap .i64 (v0.i + 1)), v0.deep, v0.steps⟩ : OParseParser))) else none)

def parse_parser_must.f  (v0 : OParseParser) (v1 : List UInt8) : Option (Except (Int × Int) OParseParser) :=
  (Option.bind (parse_parser_sign.f v0 v1) fun t1 => (if (!t1.1) = true then (FW.bindX (parse_parser_stop.f t1.2 120) fun t2 => some (.ok (t2))) else some (.ok (t1.2))))

def val_Int.f  (v0 : Int) : Option ApiValue :=
  some ((⟨2, false, v0, 0, [], []⟩ : ApiValue))

def num_Canon.f  (v0 : Nat) : Option Nat :=
  (if (FW.fneq v0 v0) = true then some ((Int.toNat 9221120237041090561)) else some (v0))

def val_Float.f  (v0 : Nat) : Option ApiValue :=
  (Option.bind (num_Canon.f v0) fun t1 => some ((⟨3, false, 0, t1, [], []⟩ : ApiValue)))

def val_Text.f  (v0 : List UInt8) : Option ApiValue :=
  some ((⟨4, false, 0, 0, v0, []⟩ : ApiValue))

def val_Yes.f  (v0 : Bool) : Option ApiValue :=
  some ((⟨1, v0, 0, 0, [], []⟩ : ApiValue))

def val_None.f   : Option ApiValue :=
  some ((⟨0, false, 0, 0, [], []⟩ : ApiValue))

def parse_parser_into_1.f  (v0 : OVarPParseParser) (v0_0 : OParseParser) : Option (OVarPParseParser × OParseParser) :=
  some ((⟨⟩ : OVarPParseParser), (⟨v0_0.l, v0_0.i, (IntKind.wrap .i64 (v0_0.deep - 1)), v0_0.steps⟩ : OParseParser))

def parse_parser_into.j1  (y1_0 : List ApiWord) (y1_1 : Int) (y1_2 : Int) (y1_3 : Int) : Option (Except (Int × Int) OParseParser) :=
  some (.ok ((⟨y1_0, y1_1, (IntKind.wrap .i64 (y1_2 + 1)), y1_3⟩ : OParseParser)))
def parse_parser_into.f  (v0 : OParseParser) : Option (Except (Int × Int) OParseParser) :=
  (if (decide (12 ≤ v0.deep)) = true then (FW.bindX (parse_parser_stop.f v0 3) fun t1 => parse_parser_into.j1 t1.l t1.i t1.deep t1.steps) else parse_parser_into.j1 v0.l v0.i v0.deep v0.steps)

def val_List.f  (v0 : List ApiValue) : Option ApiValue :=
  some ((⟨5, false, 0, 0, [], v0⟩ : ApiValue))

def parse_parser_value.b (s_parse_parser_value : OParseParser → Option (Except (Int × Int) (ApiValue × Bool × OParseParser))) (s_parse_parser_values : OParseParser → List UInt8 → Option (Except (Int × Int) (List ApiValue × OParseParser))) (K : Nat) (v0 : OParseParser) : Option (Except (Int × Int) (ApiValue × Bool × OParseParser)) :=
  (if ((0 : Int) ≤ v0.i ∧ v0.i < (List.length v0.l : Int)) then (if (decide (((List.getD v0.l (Int.toNat v0.i) default).Kind) = 2)) = true then (Option.bind (val_Int.f ((List.getD v0.l (Int.toNat v0.i) default).N)) fun t1 => some (.ok (t1, true, (⟨v0.l, (IntKind.wrap .i64 (v0.i + 1)), v0.deep, v0.steps⟩ : OParseParser)))) else (if (decide (((List.getD v0.l (Int.toNat v0.i) default).Kind) = 3)) = true then (Option.bind (val_Float.f ((List.getD v0.l (Int.toNat v0.i) default).F)) fun t2 => some (.ok (t2, true, (⟨v0.l, (IntKind.wrap .i64 (v0.i + 1)), v0.deep, v0.steps⟩ : OParseParser)))) else (if (decide (((List.getD v0.l (Int.toNat v0.i) default).Kind) = 4)) = true then (Option.bind (val_Text.f ((List.getD v0.l (Int.toNat v0.i) default).S)) fun t3 => some (.ok (t3, true, (⟨v0.l, (IntKind.wrap .i64 (v0.i + 1)), v0.deep, v0.steps⟩ : OParseParser)))) else (if ((decide (((List.getD v0.l (Int.toNat v0.i) default).Kind) = 1)) && ((decide (((List.getD v0.l (Int.toNat v0.i) default).S) = ([116, 114, 117, 101] : List UInt8))) || (decide (((List.getD v0.l (Int.toNat v0.i) default).S) = ([102, 97, 108, 115, 101] : List UInt8))))) = true then (Option.bind (val_Yes.f (decide (((List.getD v0.l (Int.toNat v0.i) default).S) = ([116, 114, 117, 101] : List UInt8)))) fun t4 => some (.ok (t4, true, (⟨v0.l, (IntKind.wrap .i64 (v0.i + 1)), v0.deep, v0.steps⟩ : OParseParser)))) else (if ((decide (((List.getD v0.l (Int.toNat v0.i) default).Kind) = 1)) && (decide (((List.getD v0.l (Int.toNat v0.i) default).S) = ([110, 117, 108, 108] : List UInt8)))) = true then (Option.bind (val_None.f) fun t5 => some (.ok (t5, true, (⟨v0.l, (IntKind.wrap .i64 (v0.i + 1)), v0.deep, v0.steps⟩ : OParseParser)))) else (Option.bind (parse_parser_sign.f v0 ([91] : List UInt8)) fun t6 => (if t6.1 = true then (FW.bindX (s_parse_parser_values t6.2 ([93] : List UInt8)) fun t7 => (Option.bind (val_List.f t7.1) fun t8 => some (.ok (t8, true, t7.2)))) else some (.ok ((⟨0, false, 0, 0, [], []⟩ : ApiValue), false, t6.2))))))))) else none)
def parse_parser_values.j3 (s_parse_parser_value : OParseParser → Option (Except (Int × Int) (ApiValue × Bool × OParseParser))) (s_parse_parser_values : OParseParser → List UInt8 → Option (Except (Int × Int) (List ApiValue × OParseParser))) (s_l1 : List ApiValue → Nat → List ApiWord → Int → Int → Int → List UInt8 → Option (Except (Int × Int) (List ApiValue × OParseParser))) (K : Nat) (y1_0 : List ApiWord) (y1_1 : Int) (y1_2 : Int) (y1_3 : Int) (y5 : ApiValue) (l4 : List ApiValue) (dn2 : Nat) (v1 : List UInt8) : Option (Except (Int × Int) (List ApiValue × OParseParser)) :=
  (if ((List.length l4 + List.length ([y5] : List ApiValue)) * 72 ≤ 140737488355328 ∧ List.length l4 + List.length ([y5] : List ApiValue) ≤ 140737488355328) then s_l1 (l4 ++ ([y5] : List ApiValue)) dn2 y1_0 y1_1 y1_2 y1_3 v1 else none)
def parse_parser_values.j2 (s_parse_parser_value : OParseParser → Option (Except (Int × Int) (ApiValue × Bool × OParseParser))) (s_parse_parser_values : OParseParser → List UInt8 → Option (Except (Int × Int) (List ApiValue × OParseParser))) (s_l1 : List ApiValue → Nat → List ApiWord → Int → Int → Int → List UInt8 → Option (Except (Int × Int) (List ApiValue × OParseParser))) (K : Nat) (y1_0 : List ApiWord) (y1_1 : Int) (y1_2 : Int) (y1_3 : Int) (l4 : List ApiValue) (dn2 : Nat) (v1 : List UInt8) : Option (Except (Int × Int) (List ApiValue × OParseParser)) :=
  (FW.bindX (s_parse_parser_value (⟨y1_0, y1_1, y1_2, y1_3⟩ : OParseParser)) fun t3 => (if (!t3.2.1) = true then (FW.bindX (parse_parser_stop.f t3.2.2 120) fun t4 => parse_parser_values.j3 s_parse_parser_value s_parse_parser_values s_l1 K t4.l t4.i t4.deep t4.steps t3.1 l4 dn2 v1) else parse_parser_values.j3 s_parse_parser_value s_parse_parser_values s_l1 K t3.2.2.l t3.2.2.i t3.2.2.deep t3.2.2.steps t3.1 l4 dn2 v1))
def parse_parser_values.j1 (s_parse_parser_value : OParseParser → Option (Except (Int × Int) (ApiValue × Bool × OParseParser))) (s_parse_parser_values : OParseParser → List UInt8 → Option (Except (Int × Int) (List ApiValue × OParseParser))) (s_l1 : List ApiValue → Nat → List ApiWord → Int → Int → Int → List UInt8 → Option (Except (Int × Int) (List ApiValue × OParseParser))) (K : Nat) (y1_0 : List ApiWord) (y1_1 : Int) (y1_2 : Int) (y1_3 : Int) (l4 : List ApiValue) (dn2 : Nat) (v1 : List UInt8) : Option (Except (Int × Int) (List ApiValue × OParseParser)) :=
  (if (decide (12 ≤ (List.length l4 : Int))) = true then (FW.bindX (parse_parser_stop.f (⟨y1_0, y1_1, y1_2, y1_3⟩ : OParseParser) 3) fun t5 => parse_parser_values.j2 s_parse_parser_value s_parse_parser_values s_l1 K t5.l t5.i t5.deep t5.steps l4 dn2 v1) else parse_parser_values.j2 s_parse_parser_value s_parse_parser_values s_l1 K y1_0 y1_1 y1_2 y1_3 l4 dn2 v1)
def parse_parser_values.l1 (s_parse_parser_value : OParseParser → Option (Except (Int × Int) (ApiValue × Bool × OParseParser))) (s_parse_parser_values : OParseParser → List UInt8 → Option (Except (Int × Int) (List ApiValue × OParseParser))) (K : Nat) : Nat → List ApiValue → Nat → List ApiWord → Int → Int → Int → List UInt8 → Option (Except (Int × Int) (List ApiValue × OParseParser))
  | 0, _, _, _, _, _, _, _ => none
  | kl1 + 1, l4, dn2, y1_0, y1_1, y1_2, y1_3, v1 => (Option.bind (parse_parser_sign.f (⟨y1_0, y1_1, y1_2, y1_3⟩ : OParseParser) v1) fun t2 => (if (!t2.1) = true then (if (decide (0 < (List.length l4 : Int))) = true then (FW.bindX (parse_parser_must.f t2.2 ([44] : List UInt8)) fun t6 => parse_parser_values.j1 s_parse_parser_value s_parse_parser_values (parse_parser_values.l1 s_parse_parser_value s_parse_parser_values K kl1) K t6.l t6.i t6.deep t6.steps l4 dn2 v1) else parse_parser_values.j1 s_parse_parser_value s_parse_parser_values (parse_parser_values.l1 s_parse_parser_value s_parse_parser_values K kl1) K t2.2.l t2.2.i t2.2.deep t2.2.steps l4 dn2 v1) else some (.ok (l4, (⟨t2.2.l, t2.2.i, (FW.decrN dn2 t2.2.deep), t2.2.steps⟩ : OParseParser)))))
def parse_parser_values.b (s_parse_parser_value : OParseParser → Option (Except (Int × Int) (ApiValue × Bool × OParseParser))) (s_parse_parser_values : OParseParser → List UInt8 → Option (Except (Int × Int) (List ApiValue × OParseParser))) (K : Nat) (v0 : OParseParser) (v1 : List UInt8) : Option (Except (Int × Int) (List ApiValue × OParseParser)) :=
  (FW.bindX (parse_parser_into.f v0) fun t1 => parse_parser_values.l1 s_parse_parser_value s_parse_parser_values K K ([] : List ApiValue) 1 t1.l t1.i t1.deep t1.steps v1)
mutual
def parse_parser_value.f : Nat → OParseParser → Option (Except (Int × Int) (ApiValue × Bool × OParseParser))
  | 0, _ => none
  | K + 1, v0 => parse_parser_value.b (parse_parser_value.f K) (parse_parser_values.f K) K v0
def parse_parser_values.f : Nat → OParseParser → List UInt8 → Option (Except (Int × Int) (List ApiValue × OParseParser))
  | 0, _, _ => none
  | K + 1, v0, v1 => parse_parser_values.b (parse_parser_value.f K) (parse_parser_values.f K) K v0 v1
end

def parse_Preds.j3  (v19 : Bool) : Option (Int × Bool) :=
  (if v19 = true then some ((-1), true) else some (0, false))
def parse_Preds.j2  (v4 : List UInt8) (v15 : Bool) : Option (Int × Bool) :=
  (if v15 = true then some (2, true) else (if (decide (v4 = ([119, 105, 116, 104, 105, 110] : List UInt8))) = true then parse_Preds.j3 (decide (v4 = ([119, 105, 116, 104, 105, 110] : List UInt8))) else parse_Preds.j3 (decide (v4 = ([119, 105, 116, 104, 111, 117, 116] : List UInt8)))))
def parse_Preds.j1  (v4 : List UInt8) (v5 : Bool) : Option (Int × Bool) :=
  (if v5 = true then some (1, true) else (if (decide (v4 = ([98, 101, 116, 119, 101, 101, 110] : List UInt8))) = true then parse_Preds.j2 v4 (decide (v4 = ([98, 101, 116, 119, 101, 101, 110] : List UInt8))) else (if (decide (v4 = ([105, 110, 115, 105, 100, 101] : List UInt8))) = true then parse_Preds.j2 v4 (decide (v4 = ([105, 110, 115, 105, 100, 101] : List UInt8))) else parse_Preds.j2 v4 (decide (v4 = ([111, 117, 116, 115, 105, 100, 101] : List UInt8))))))
def parse_Preds.f  (v0 : List UInt8) : Option (Int × Bool) :=
  (if (decide (v0 = ([101, 113] : List UInt8))) = true then parse_Preds.j1 v0 (decide (v0 = ([101, 113] : List UInt8))) else (if (decide (v0 = ([110, 101, 113] : List UInt8))) = true then parse_Preds.j1 v0 (decide (v0 = ([110, 101, 113] : List UInt8))) else (if (decide (v0 = ([108, 116] : List UInt8))) = true then parse_Preds.j1 v0 (decide (v0 = ([108, 116] : List UInt8))) else (if (decide (v0 = ([108, 116, 101] : List UInt8))) = true then parse_Preds.j1 v0 (decide (v0 = ([108, 116, 101] : List UInt8))) else (if (decide (v0 = ([103, 116] : List UInt8))) = true then parse_Preds.j1 v0 (decide (v0 = ([103, 116] : List UInt8))) else (if (decide (v0 = ([103, 116, 101] : List UInt8))) = true then parse_Preds.j1 v0 (decide (v0 = ([103, 116, 101] : List UInt8))) else (if (decide (v0 = ([115, 116, 97, 114, 116, 105, 110, 103, 87, 105, 116, 104] : List UInt8))) = true then parse_Preds.j1 v0 (decide (v0 = ([115, 116, 97, 114, 116, 105, 110, 103, 87, 105, 116, 104] : List UInt8))) else (if (decide (v0 = ([101, 110, 100, 105, 110, 103, 87, 105, 116, 104] : List UInt8))) = true then parse_Preds.j1 v0 (decide (v0 = ([101, 110, 100, 105, 110, 103, 87, 105, 116, 104] : List UInt8))) else parse_Preds.j1 v0 (decide (v0 = ([99, 111, 110, 116, 97, 105, 110, 105, 110, 103] : List UInt8)))))))))))

def parse_parser_pred.j3 (s_parse_parser_pred : OParseParser → Option (Except (Int × Int) (ApiPred × OParseParser))) (s_l1 : List ApiWord → Int → Int → Int → ApiPred → ApiPred → Nat → Option (Except (Int × Int) (ApiPred × OParseParser))) (K : Nat) (y1_0 : List ApiWord) (y1_1 : Int) (y1_2 : Int) (y1_3 : Int) (dn2 : Nat) (y4 : ApiPred) (y3 : ApiPred) : Option (Except (Int × Int) (ApiPred × OParseParser)) :=
  (FW.bindX (parse_parser_must.f (⟨y1_0, y1_1, y1_2, y1_3⟩ : OParseParser) ([41] : List UInt8)) fun t9 => s_l1 t9.l t9.i t9.deep t9.steps y4 y3 dn2)
def parse_parser_pred.j4 (s_parse_parser_pred : OParseParser → Option (Except (Int × Int) (ApiPred × OParseParser))) (s_l1 : List ApiWord → Int → Int → Int → ApiPred → ApiPred → Nat → Option (Except (Int × Int) (ApiPred × OParseParser))) (K : Nat) (y1_0 : List ApiWord) (y1_1 : Int) (y1_2 : Int) (y1_3 : Int) (dn2 : Nat) (y4 : ApiPred) (y3 : ApiPred) (v8 : Int) (v9 : List UInt8) (v62 : List UInt8) (v69 : Bool) : Option (Except (Int × Int) (ApiPred × OParseParser)) :=
  (if v69 = true then (FW.bindX (s_parse_parser_pred (⟨y1_0, y1_1, y1_2, y1_3⟩ : OParseParser)) fun t10 => parse_parser_pred.j3 s_parse_parser_pred s_l1 K t10.2.l t10.2.i t10.2.deep t10.2.steps dn2 (⟨v9, [], ([y4, t10.1] : List ApiPred)⟩ : ApiPred) y3) else (if (decide (v62 = ([110, 101, 103, 97, 116, 101] : List UInt8))) = true then parse_parser_pred.j3 s_parse_parser_pred s_l1 K y1_0 y1_1 y1_2 y1_3 dn2 (⟨([110, 111, 116] : List UInt8), [], ([y4] : List ApiPred)⟩ : ApiPred) y3 else (FW.bindX (parse_parser_stop.f (⟨y1_0, v8, y1_2, y1_3⟩ : OParseParser) 120) fun t11 => parse_parser_pred.j3 s_parse_parser_pred s_l1 K t11.l t11.i t11.deep t11.steps dn2 y4 y3)))
def parse_parser_pred.l1 (s_parse_parser_pred : OParseParser → Option (Except (Int × Int) (ApiPred × OParseParser))) (K : Nat) : Nat → List ApiWord → Int → Int → Int → ApiPred → ApiPred → Nat → Option (Except (Int × Int) (ApiPred × OParseParser))
  | 0, _, _, _, _, _, _, _ => none
  | kl1 + 1, y1_0, y1_1, y1_2, y1_3, y4, y3, dn2 => (Option.bind (parse_parser_sign.f (⟨y1_0, y1_1, y1_2, y1_3⟩ : OParseParser) ([46] : List UInt8)) fun t5 => (if t5.1 = true then (FW.bindX (parse_parser_into.f t5.2) fun t6 => (FW.bindX (parse_parser_name.f t6) fun t7 => (FW.bindX (parse_parser_must.f t7.2 ([40] : List UInt8)) fun t8 => (if (decide (t7.1 = ([97, 110, 100] : List UInt8))) = true then parse_parser_pred.j4 s_parse_parser_pred (parse_parser_pred.l1 s_parse_parser_pred K kl1) K t8.l t8.i t8.deep t8.steps (dn2 + 1) y4 y3 t6.i t7.1 t7.1 (decide (t7.1 = ([97, 110, 100] : List UInt8))) else parse_parser_pred.j4 s_parse_parser_pred (parse_parser_pred.l1 s_parse_parser_pred K kl1) K t8.l t8.i t8.deep t8.steps (dn2 + 1) y4 y3 t6.i t7.1 t7.1 (decide (t7.1 = ([111, 114] : List UInt8))))))) else some (.ok (y4, (⟨t5.2.l, t5.2.i, (FW.decrN dn2 t5.2.deep), t5.2.steps⟩ : OParseParser)))))
def parse_parser_pred.j2 (s_parse_parser_pred : OParseParser → Option (Except (Int × Int) (ApiPred × OParseParser))) (K : Nat) (y1_0 : List ApiWord) (y1_1 : Int) (y1_2 : Int) (y1_3 : Int) (y4 : ApiPred) (y3 : ApiPred) (dn2 : Nat) : Option (Except (Int × Int) (ApiPred × OParseParser)) :=
  parse_parser_pred.l1 s_parse_parser_pred K K y1_0 y1_1 y1_2 y1_3 y4 y3 dn2
def parse_parser_pred.j1 (s_parse_parser_pred : OParseParser → Option (Except (Int × Int) (ApiPred × OParseParser))) (K : Nat) (y1_0 : List ApiWord) (y1_1 : Int) (y1_2 : Int) (y1_3 : Int) (y3 : ApiPred) (dn2 : Nat) (v3 : Int) (v4 : List UInt8) (v5 : Int) : Option (Except (Int × Int) (ApiPred × OParseParser)) :=
  (FW.bindX (parse_parser_must.f (⟨y1_0, y1_1, y1_2, y1_3⟩ : OParseParser) ([40] : List UInt8)) fun t3 => (FW.bindX (parse_parser_values.f K t3 ([41] : List UInt8)) fun t4 => (if ((decide (0 ≤ v5)) && (!decide ((List.length t4.1 : Int) = v5))) = true then (FW.bindX (parse_parser_stop.f (⟨t4.2.l, v3, t4.2.deep, t4.2.steps⟩ : OParseParser) 120) fun t12 => parse_parser_pred.j2 s_parse_parser_pred K t12.l t12.i t12.deep t12.steps (⟨v4, t4.1, []⟩ : ApiPred) y3 dn2) else parse_parser_pred.j2 s_parse_parser_pred K t4.2.l t4.2.i t4.2.deep t4.2.steps (⟨v4, t4.1, []⟩ : ApiPred) y3 dn2)))
def parse_parser_pred.b (s_parse_parser_pred : OParseParser → Option (Except (Int × Int) (ApiPred × OParseParser))) (K : Nat) (v0 : OParseParser) : Option (Except (Int × Int) (ApiPred × OParseParser)) :=
  (FW.bindX (parse_parser_name.f v0) fun t1 => (Option.bind (parse_Preds.f t1.1) fun t2 => (if (!t2.2) = true then (FW.bindX (parse_parser_stop.f (⟨t1.2.l, v0.i, t1.2.deep, t1.2.steps⟩ : OParseParser) 120) fun t13 => parse_parser_pred.j1 s_parse_parser_pred K t13.l t13.i t13.deep t13.steps (⟨[], [], []⟩ : ApiPred) 0 v0.i t1.1 t2.1) else parse_parser_pred.j1 s_parse_parser_pred K t1.2.l t1.2.i t1.2.deep t1.2.steps (⟨[], [], []⟩ : ApiPred) 0 v0.i t1.1 t2.1)))
def parse_parser_pred.f : Nat → OParseParser → Option (Except (Int × Int) (ApiPred × OParseParser))
  | 0, _ => none
  | K + 1, v0 => parse_parser_pred.b (parse_parser_pred.f K) K v0

def parse_parser_chain.l1 (s_parse_parser_chain : OParseParser → Option (Except (Int × Int) (List ApiStep × OParseParser))) (s_parse_parser_step : OParseParser → Option (Except (Int × Int) (ApiStep × OParseParser))) (s_parse_parser_arg : OParseParser → Option (Except (Int × Int) (ApiArg × OParseParser))) (s_parse_parser_child : OParseParser → Option (Except (Int × Int) (List ApiStep × OParseParser))) (K : Nat) : Nat → List ApiStep → List ApiWord → Int → Int → Int → Option (Except (Int × Int) (List ApiStep × OParseParser))
  | 0, _, _, _, _, _ => none
  | kl1 + 1, l2, y1_0, y1_1, y1_2, y1_3 => (Option.bind (parse_parser_sign.f (⟨y1_0, y1_1, y1_2, y1_3⟩ : OParseParser) ([46] : List UInt8)) fun t2 => (if t2.1 = true then (FW.bindX (s_parse_parser_step t2.2) fun t3 => (if ((List.length l2 + List.length ([t3.1] : List ApiStep)) * 40 ≤ 140737488355328 ∧ List.length l2 + List.length ([t3.1] : List ApiStep) ≤ 140737488355328) then parse_parser_chain.l1 s_parse_parser_chain s_parse_parser_step s_parse_parser_arg s_parse_parser_child K kl1 (l2 ++ ([t3.1] : List ApiStep)) t3.2.l t3.2.i t3.2.deep t3.2.steps else none)) else some (.ok (l2, t2.2))))
def parse_parser_chain.b (s_parse_parser_chain : OParseParser → Option (Except (Int × Int) (List ApiStep × OParseParser))) (s_parse_parser_step : OParseParser → Option (Except (Int × Int) (ApiStep × OParseParser))) (s_parse_parser_arg : OParseParser → Option (Except (Int × Int) (ApiArg × OParseParser))) (s_parse_parser_child : OParseParser → Option (Except (Int × Int) (List ApiStep × OParseParser))) (K : Nat) (v0 : OParseParser) : Option (Except (Int × Int) (List ApiStep × OParseParser)) :=
  (FW.bindX (s_parse_parser_step v0) fun t1 => parse_parser_chain.l1 s_parse_parser_chain s_parse_parser_step s_parse_parser_arg s_parse_parser_child K K ([t1.1] : List ApiStep) t1.2.l t1.2.i t1.2.deep t1.2.steps)
def parse_parser_step.j3 (s_parse_parser_chain : OParseParser → Option (Except (Int × Int) (List ApiStep × OParseParser))) (s_parse_parser_step : OParseParser → Option (Except (Int × Int) (ApiStep × OParseParser))) (s_parse_parser_arg : OParseParser → Option (Except (Int × Int) (ApiArg × OParseParser))) (s_parse_parser_child : OParseParser → Option (Except (Int × Int) (List ApiStep × OParseParser))) (s_l1 : List ApiWord → Int → Int → Int → List ApiArg → List UInt8 → ApiStep → Option (Except (Int × Int) (ApiStep × OParseParser))) (K : Nat) (y1_0 : List ApiWord) (y1_1 : Int) (y1_2 : Int) (y1_3 : Int) (l4 : List ApiArg) (y3_0 : List UInt8) (y2 : ApiStep) : Option (Except (Int × Int) (ApiStep × OParseParser)) :=
  (FW.bindX (s_parse_parser_arg (⟨y1_0, y1_1, y1_2, y1_3⟩ : OParseParser)) fun t4 => (if ((List.length l4 + List.length ([t4.1] : List ApiArg)) * 168 ≤ 140737488355328 ∧ List.length l4 + List.length ([t4.1] : List ApiArg) ≤ 140737488355328) then s_l1 t4.2.l t4.2.i t4.2.deep t4.2.steps (l4 ++ ([t4.1] : List ApiArg)) y3_0 y2 else none))
def parse_parser_step.j2 (s_parse_parser_chain : OParseParser → Option (Except (Int × Int) (List ApiStep × OParseParser))) (s_parse_parser_step : OParseParser → Option (Except (Int × Int) (ApiStep × OParseParser))) (s_parse_parser_arg : OParseParser → Option (Except (Int × Int) (ApiArg × OParseParser))) (s_parse_parser_child : OParseParser → Option (Except (Int × Int) (List ApiStep × OParseParser))) (s_l1 : List ApiWord → Int → Int → Int → List ApiArg → List UInt8 → ApiStep → Option (Except (Int × Int) (ApiStep × OParseParser))) (K : Nat) (y1_0 : List ApiWord) (y1_1 : Int) (y1_2 : Int) (y1_3 : Int) (l4 : List ApiArg) (y3_0 : List UInt8) (y2 : ApiStep) : Option (Except (Int × Int) (ApiStep × OParseParser)) :=
  (if (decide (12 ≤ (List.length l4 : Int))) = true then (FW.bindX (parse_parser_stop.f (⟨y1_0, y1_1, y1_2, y1_3⟩ : OParseParser) 3) fun t5 => parse_parser_step.j3 s_parse_parser_chain s_parse_parser_step s_parse_parser_arg s_parse_parser_child s_l1 K t5.l t5.i t5.deep t5.steps l4 y3_0 y2) else parse_parser_step.j3 s_parse_parser_chain s_parse_parser_step s_parse_parser_arg s_parse_parser_child s_l1 K y1_0 y1_1 y1_2 y1_3 l4 y3_0 y2)
def parse_parser_step.l1 (s_parse_parser_chain : OParseParser → Option (Except (Int × Int) (List ApiStep × OParseParser))) (s_parse_parser_step : OParseParser → Option (Except (Int × Int) (ApiStep × OParseParser))) (s_parse_parser_arg : OParseParser → Option (Except (Int × Int) (ApiArg × OParseParser))) (s_parse_parser_child : OParseParser → Option (Except (Int × Int) (List ApiStep × OParseParser))) (K : Nat) : Nat → List ApiWord → Int → Int → Int → List ApiArg → List UInt8 → ApiStep → Option (Except (Int × Int) (ApiStep × OParseParser))
  | 0, _, _, _, _, _, _, _ => none
  | kl1 + 1, y1_0, y1_1, y1_2, y1_3, l4, y3_0, y2 => (Option.bind (parse_parser_sign.f (⟨y1_0, y1_1, y1_2, y1_3⟩ : OParseParser) ([41] : List UInt8)) fun t3 => (if (!t3.1) = true then (if (decide (0 < (List.length l4 : Int))) = true then (FW.bindX (parse_parser_must.f t3.2 ([44] : List UInt8)) fun t6 => parse_parser_step.j2 s_parse_parser_chain s_parse_parser_step s_parse_parser_arg s_parse_parser_child (parse_parser_step.l1 s_parse_parser_chain s_parse_parser_step s_parse_parser_arg s_parse_parser_child K kl1) K t6.l t6.i t6.deep t6.steps l4 y3_0 y2) else parse_parser_step.j2 s_parse_parser_chain s_parse_parser_step s_parse_parser_arg s_parse_parser_child (parse_parser_step.l1 s_parse_parser_chain s_parse_parser_step s_parse_parser_arg s_parse_parser_child K kl1) K t3.2.l t3.2.i t3.2.deep t3.2.steps l4 y3_0 y2) else some (.ok ((⟨y3_0, l4⟩ : ApiStep), t3.2))))
def parse_parser_step.j1 (s_parse_parser_chain : OParseParser → Option (Except (Int × Int) (List ApiStep × OParseParser))) (s_parse_parser_step : OParseParser → Option (Except (Int × Int) (ApiStep × OParseParser))) (s_parse_parser_arg : OParseParser → Option (Except (Int × Int) (ApiArg × OParseParser))) (s_parse_parser_child : OParseParser → Option (Except (Int × Int) (List ApiStep × OParseParser))) (K : Nat) (y1_0 : List ApiWord) (y1_1 : Int) (y1_2 : Int) (y1_3 : Int) (y2 : ApiStep) : Option (Except (Int × Int) (ApiStep × OParseParser)) :=
  (FW.bindX (parse_parser_name.f (⟨y1_0, y1_1, y1_2, y1_3⟩ : OParseParser)) fun t1 => (FW.bindX (parse_parser_must.f t1.2 ([40] : List UInt8)) fun t2 => parse_parser_step.l1 s_parse_parser_chain s_parse_parser_step s_parse_parser_arg s_parse_parser_child K K t2.l t2.i t2.deep t2.steps ([] : List ApiArg) t1.1 y2))
def parse_parser_step.b (s_parse_parser_chain : OParseParser → Option (Except (Int × Int) (List ApiStep × OParseParser))) (s_parse_parser_step : OParseParser → Option (Except (Int × Int) (ApiStep × OParseParser))) (s_parse_parser_arg : OParseParser → Option (Except (Int × Int) (ApiArg × OParseParser))) (s_parse_parser_child : OParseParser → Option (Except (Int × Int) (List ApiStep × OParseParser))) (K : Nat) (v0 : OParseParser) : Option (Except (Int × Int) (ApiStep × OParseParser)) :=
  (if (decide (150 < (IntKind.wrap .i64 (v0.steps + 1)))) = true then (FW.bindX (parse_parser_stop.f (⟨v0.l, v0.i, v0.deep, (IntKind.wrap .i64 (v0.steps + 1))⟩ : OParseParser) 3) fun t7 => parse_parser_step.j1 s_parse_parser_chain s_parse_parser_step s_parse_parser_arg s_parse_parser_child K t7.l t7.i t7.deep t7.steps (⟨[], []⟩ : ApiStep)) else parse_parser_step.j1 s_parse_parser_chain s_parse_parser_step s_parse_parser_arg s_parse_parser_child K v0.l v0.i v0.deep (IntKind.wrap .i64 (v0.steps + 1)) (⟨[], []⟩ : ApiStep))
def parse_parser_arg.j1 (s_parse_parser_chain : OParseParser → Option (Except (Int × Int) (List ApiStep × OParseParser))) (s_parse_parser_step : OParseParser → Option (Except (Int × Int) (ApiStep × OParseParser))) (s_parse_parser_arg : OParseParser → Option (Except (Int × Int) (ApiArg × OParseParser))) (s_parse_parser_child : OParseParser → Option (Except (Int × Int) (List ApiStep × OParseParser))) (K : Nat) (y1_0 : List ApiWord) (y1_1 : Int) (y1_2 : Int) (y1_3 : Int) (y2 : ApiArg) : Option (Except (Int × Int) (ApiArg × OParseParser)) :=
  (FW.bindX (s_parse_parser_child (⟨y1_0, y1_1, y1_2, y1_3⟩ : OParseParser)) fun t2 => some (.ok ((⟨3, (⟨0, false, 0, 0, [], []⟩ : ApiValue), (⟨[], [], []⟩ : ApiPred), t2.1⟩ : ApiArg), t2.2)))
def parse_parser_arg.b (s_parse_parser_chain : OParseParser → Option (Except (Int × Int) (List ApiStep × OParseParser))) (s_parse_parser_step : OParseParser → Option (Except (Int × Int) (ApiStep × OParseParser))) (s_parse_parser_arg : OParseParser → Option (Except (Int × Int) (ApiArg × OParseParser))) (s_parse_parser_child : OParseParser → Option (Except (Int × Int) (List ApiStep × OParseParser))) (K : Nat) (v0 : OParseParser) : Option (Except (Int × Int) (ApiArg × OParseParser)) :=
  (FW.bindX (parse_parser_value.f K v0) fun t1 => (if t1.2.1 = true then some (.ok ((⟨1, t1.1, (⟨[], [], []⟩ : ApiPred), []⟩ : ApiArg), t1.2.2)) else (if ((0 : Int) ≤ t1.2.2.i ∧ t1.2.2.i < (List.length t1.2.2.l : Int)) then (if (decide (((List.getD t1.2.2.l (Int.toNat t1.2.2.i) default).Kind) = 1)) = true then (if ((0 : Int) ≤ (IntKind.wrap .i64 (t1.2.2.i + 1)) ∧ (IntKind.wrap .i64 (t1.2.2.i + 1)) < (List.length t1.2.2.l : Int)) then (Option.bind (parse_Preds.f ((List.getD t1.2.2.l (Int.toNat t1.2.2.i) default).S)) fun t3 => (if (t3.2 && ((decide (((List.getD t1.2.2.l (Int.toNat (IntKind.wrap .i64 (t1.2.2.i + 1))) default).Kind) = 5)) && (decide (((List.getD t1.2.2.l (Int.toNat (IntKind.wrap .i64 (t1.2.2.i + 1))) default).S) = ([40] : List UInt8))))) = true then (FW.bindX (parse_parser_pred.f K t1.2.2) fun t4 => some (.ok ((⟨2, (⟨0, false, 0, 0, [], []⟩ : ApiValue), t4.1, []⟩ : ApiArg), t4.2))) else (if ((!((decide (((List.getD t1.2.2.l (Int.toNat (IntKind.wrap .i64 (t1.2.2.i + 1))) default).Kind) = 5)) && (decide (((List.getD t1.2.2.l (Int.toNat (IntKind.wrap .i64 (t1.2.2.i + 1))) default).S) = ([40] : List UInt8))))) && (!decide (((List.getD t1.2.2.l (Int.toNat t1.2.2.i) default).S) = ([95, 95] : List UInt8)))) = true then (FW.bindX (parse_parser_name.f t1.2.2) fun t5 => (Option.bind (val_Text.f t5.1) fun t6 => some (.ok ((⟨4, t6, (⟨[], [], []⟩ : ApiPred), []⟩ : ApiArg), t5.2)))) else parse_parser_arg.j1 s_parse_parser_chain s_parse_parser_step s_parse_parser_arg s_parse_parser_child K t1.2.2.l t1.2.2.i t1.2.2.deep t1.2.2.steps (⟨0, (⟨0, false, 0, 0, [], []⟩ : ApiValue), (⟨[], [], []⟩ : ApiPred), []⟩ : ApiArg)))) else none) else parse_parser_arg.j1 s_parse_parser_chain s_parse_parser_step s_parse_parser_arg s_parse_parser_child K t1.2.2.l t1.2.2.i t1.2.2.deep t1.2.2.steps (⟨0, (⟨0, false, 0, 0, [], []⟩ : ApiValue), (⟨[], [], []⟩ : ApiPred), []⟩ : ApiArg)) else none)))
def parse_parser_child.j1 (s_parse_parser_chain : OParseParser → Option (Except (Int × Int) (List ApiStep × OParseParser))) (s_parse_parser_step : OParseParser → Option (Except (Int × Int) (ApiStep × OParseParser))) (s_parse_parser_arg : OParseParser → Option (Except (Int × Int) (ApiArg × OParseParser))) (s_parse_parser_child : OParseParser → Option (Except (Int × Int) (List ApiStep × OParseParser))) (K : Nat) (y1_0 : List ApiWord) (y1_1 : Int) (y1_2 : Int) (y1_3 : Int) (dn2 : Nat) : Option (Except (Int × Int) (List ApiStep × OParseParser)) :=
  (FW.bindX (s_parse_parser_chain (⟨y1_0, y1_1, y1_2, y1_3⟩ : OParseParser)) fun t2 => some (.ok (t2.1, (⟨t2.2.l, t2.2.i, (FW.decrN dn2 t2.2.deep), t2.2.steps⟩ : OParseParser))))
def parse_parser_child.b (s_parse_parser_chain : OParseParser → Option (Except (Int × Int) (List ApiStep × OParseParser))) (s_parse_parser_step : OParseParser → Option (Except (Int × Int) (ApiStep × OParseParser))) (s_parse_parser_arg : OParseParser → Option (Except (Int × Int) (ApiArg × OParseParser))) (s_parse_parser_child : OParseParser → Option (Except (Int × Int) (List ApiStep × OParseParser))) (K : Nat) (v0 : OParseParser) : Option (Except (Int × Int) (List ApiStep × OParseParser)) :=
  (FW.bindX (parse_parser_into.f v0) fun t1 => (if ((0 : Int) ≤ t1.i ∧ t1.i < (List.length t1.l : Int)) then (if (decide (((List.getD t1.l (Int.toNat t1.i) default).Kind) = 1)) = true → ((0 : Int) ≤ t1.i ∧ t1.i < (List.length t1.l : Int)) then (if ((decide (((List.getD t1.l (Int.toNat t1.i) default).Kind) = 1)) && (decide (((List.getD t1.l (Int.toNat t1.i) default).S) = ([95, 95] : List UInt8)))) = true then (FW.bindX (parse_parser_must.f (⟨t1.l, (IntKind.wrap .i64 (t1.i + 1)), t1.deep, t1.steps⟩ : OParseParser) ([46] : List UInt8)) fun t3 => parse_parser_child.j1 s_parse_parser_chain s_parse_parser_step s_parse_parser_arg s_parse_parser_child K t3.l t3.i t3.deep t3.steps 1) else parse_parser_child.j1 s_parse_parser_chain s_parse_parser_step s_parse_parser_arg s_parse_parser_child K t1.l t1.i t1.deep t1.steps 1) else none) else none))
mutual
def parse_parser_chain.f : Nat → OParseParser → Option (Except (Int × Int) (List ApiStep × OParseParser))
  | 0, _ => none
  | K + 1, v0 => parse_parser_chain.b (parse_parser_chain.f K) (parse_parser_step.f K) (parse_parser_arg.f K) (parse_parser_child.f K) K v0
def parse_parser_step.f : Nat → OParseParser → Option (Except (Int × Int) (ApiStep × OParseParser))
  | 0, _ => none
  | K + 1, v0 => parse_parser_step.b (parse_parser_chain.f K) (parse_parser_step.f K) (parse_parser_arg.f K) (parse_parser_child.f K) K v0
def parse_parser_arg.f : Nat → OParseParser → Option (Except (Int × Int) (ApiArg × OParseParser))
  | 0, _ => none
  | K + 1, v0 => parse_parser_arg.b (parse_parser_chain.f K) (parse_parser_step.f K) (parse_parser_arg.f K) (parse_parser_child.f K) K v0
def parse_parser_child.f : Nat → OParseParser → Option (Except (Int × Int) (List ApiStep × OParseParser))
  | 0, _ => none
  | K + 1, v0 => parse_parser_child.b (parse_parser_chain.f K) (parse_parser_step.f K) (parse_parser_arg.f K) (parse_parser_child.f K) K v0
end

def parse_parser_all.j2 (K : Nat) (y1_0 : List ApiWord) (y1_1 : Int) (y1_2 : Int) (y1_3 : Int) (y4 : Int) (y3 : Int) (y2 : List ApiStep) : Option (Except (Int × Int) (List ApiStep × Int × Int)) :=
  some (.ok (y2, 0, 0))
def parse_parser_all.j1 (K : Nat) (y1_0 : List ApiWord) (y1_1 : Int) (y1_2 : Int) (y1_3 : Int) (y4 : Int) (y3 : Int) (y2 : List ApiStep) : Option (Except (Int × Int) (List ApiStep × Int × Int)) :=
  (FW.bindX (parse_parser_must.f (⟨y1_0, y1_1, y1_2, y1_3⟩ : OParseParser) ([46] : List UInt8)) fun t1 => (FW.bindX (parse_parser_chain.f K t1) fun t2 => (if ((0 : Int) ≤ t2.2.i ∧ t2.2.i < (List.length t2.2.l : Int)) then (if (!decide (((List.getD t2.2.l (Int.toNat t2.2.i) default).Kind) = 0)) = true then (FW.bindX (parse_parser_stop.f t2.2 120) fun t3 => parse_parser_all.j2 K t3.l t3.i t3.deep t3.steps y4 y3 t2.1) else parse_parser_all.j2 K t2.2.l t2.2.i t2.2.deep t2.2.steps y4 y3 t2.1) else none)))
def parse_parser_all.f (K : Nat) (v0 : OParseParser) : Option (Except (Int × Int) (List ApiStep × Int × Int)) :=
  (FW.bindX (parse_parser_name.f v0) fun t4 => (if (!decide (t4.1 = ([103] : List UInt8))) = true then (FW.bindX (parse_parser_stop.f (⟨t4.2.l, 0, t4.2.deep, t4.2.steps⟩ : OParseParser) 120) fun t5 => parse_parser_all.j1 K t5.l t5.i t5.deep t5.steps 0 0 []) else parse_parser_all.j1 K t4.2.l t4.2.i t4.2.deep t4.2.steps 0 0 []))
end Go.Proofs.Ytbjbgodcenopnaa

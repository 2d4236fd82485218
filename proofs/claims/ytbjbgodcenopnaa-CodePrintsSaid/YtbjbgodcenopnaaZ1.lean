/- Put together by pack.py (my own program) of texts of mine: Hz, CpD, Fw, CpP0, CpP1, CpP2, CpP3, CpP4, CpP5, CpP6. -/
import Derived.KernelRfl
import Derived.Test.YtbjbgodcenopnaaProg
import Derived.Test.YtbjbgodcenopnaaZ0
namespace Go.Proofs.Ytbjbgodcenopnaa.FW
variable {Df : List Deferred}
open Go.RowKit
set_option linter.unusedVariables false
set_option linter.unusedSectionVars false
section
variable {P : Program} {M : Nat → Prop} {w0 : Bs} {w : World} {a : Act} {n d : Nat} {I : List It} {σ : St} {ty : TypeId} {pos : String} {aft : Array Edge} {x y : Operand} {u : AV} {ops : Array Oper} {Q : Exit → Act → World → Prop} {rest : List Oper} {t t' : TypeId} {k : IntKind} {p q : Int}
abbrev Go (P : Program) (M : Nat → Prop) (w0 : Bs) (n : Nat) (I : List It) (σ : St) (Df : List Deferred) (ops : Array Oper) (Q : Exit → Act → World → Prop) (rest : List Oper) : Prop := ∀ a w, S M w0 a w n I σ Df → wpList P ops Q rest a w
theorem go (hk : S M w0 a w n I σ Df) (h : Go P M w0 n I σ Df ops Q rest) : wpList P ops Q rest a w := h a w hk
theorem rg {id : Nat} {l : List Oper} {y : Code} (hk : S M w0 a w n I σ Df) (h : ∀ K : Act → World → Prop, (∀ a w, y.wp P Q a w → K a w) → Go P M w0 n I σ Df l.toArray (Exit.then K Q) l) : (Code.seq (.region id l.toArray false) y).wp P Q a w := wreg fun K q => h K q a w hk
theorem rg1 {id : Nat} {l : List Oper} (hk : S M w0 a w n I σ Df) (h : Go P M w0 n I σ Df l.toArray Q l) : (Code.region id l.toArray false).wp P Q a w := wreg1 (h a w hk)
theorem ge {y : Code} {K : Act → World → Prop} (q : ∀ a w, y.wp P Q a w → K a w) (h : ∀ a w, S M w0 a w n I σ Df → y.wp P Q a w) : Go P M w0 n I σ Df ops (Exit.then K Q) [] := fun a w hk => lend (q a w (h a w hk))
theorem gA (h : Go P M w0 n I ((d, [], u) :: σ) Df ops Q rest) (hx : opvc σ [] x = some u := by exact rfl) (hn : Nat.blt d n = true := by exact rfl) (hf : chFree σ d = true := by exact rfl) :
    Go P M w0 n I σ Df ops Q (⟨some d, .assign x, ty, pos, aft, none⟩ :: rest) := fun _ _ hk => sA hk h hx hn hf
theorem gM (h : Go P M w0 n I ((d, [], u) :: σ) Df ops Q rest) (hx : opvc σ [] x = some u := by exact rfl) (hn : Nat.blt d n = true := by exact rfl) (hf : chFree σ d = true := by exact rfl) :
    Go P M w0 n I σ Df ops Q (⟨some d, .move x, ty, pos, aft, none⟩ :: rest) := fun _ _ hk => sM hk h hx hn hf
theorem gP {v : Value} {op : Op} (hF : ∀ {a w}, Knows (okM M I) a w n σ Df → PureOp P a ⟨some d, op, ty, pos, aft, none⟩ v) (h : Go P M w0 n I ((d, [], .lit v) :: σ) Df ops Q rest) (hn : Nat.blt d n = true := by exact rfl) (hf : chFree σ d = true := by exact rfl) :
    Go P M w0 n I σ Df ops Q (⟨some d, op, ty, pos, aft, none⟩ :: rest) := fun _ _ hk => sP hk (hF hk.kn) h hn hf
theorem gS {l m : List UInt8} (h : Go P M w0 n I ((d, [], .lit (.bool (decide (l = m)))) :: σ) Df ops Q rest) (hx : opvc σ [] x = some (.lit (.string (B l))) := by exact rfl) (hy : opvc σ [] y = some (.lit (.string (B m))) := by exact rfl) (hn : Nat.blt d n = true := by exact rfl) (hf : chFree σ d = true := by exact rfl) :
    Go P M w0 n I σ Df ops Q (⟨some d, .binOp .eql t x y t', ty, pos, aft, none⟩ :: rest) := fun _ _ hk => sSe hk h hx hy hn hf
theorem gE (h : Go P M w0 n I ((d, [], .lit (.bool (decide (p = q)))) :: σ) Df ops Q rest) (hx : opvc σ [] x = some (.lit (.int k p)) := by exact rfl) (hy : opvc σ [] y = some (.lit (.int k q)) := by exact rfl) (hn : Nat.blt d n = true := by exact rfl) (hf : chFree σ d = true := by exact rfl) :
    Go P M w0 n I σ Df ops Q (⟨some d, .binOp .eql t x y t', ty, pos, aft, none⟩ :: rest) := fun _ _ hk => sEq hk h hx hy hn hf
theorem gD (h : Go P M w0 n I ((d, [], .lit (.int k (k.wrap (p + q)))) :: σ) Df ops Q rest) (hx : opvc σ [] x = some (.lit (.int k p)) := by exact rfl) (hy : opvc σ [] y = some (.lit (.int k q)) := by exact rfl) (hn : Nat.blt d n = true := by exact rfl) (hf : chFree σ d = true := by exact rfl) :
    Go P M w0 n I σ Df ops Q (⟨some d, .binOp .add t x y t', ty, pos, aft, none⟩ :: rest) := fun _ _ hk => sAd hk h hx hy hn hf
theorem gL (h : Go P M w0 n I ((d, [], .lit (.bool (decide (p < q)))) :: σ) Df ops Q rest) (hx : opvc σ [] x = some (.lit (.int k p)) := by exact rfl) (hy : opvc σ [] y = some (.lit (.int k q)) := by exact rfl) (hn : Nat.blt d n = true := by exact rfl) (hf : chFree σ d = true := by exact rfl) :
    Go P M w0 n I σ Df ops Q (⟨some d, .binOp .lss t x y t', ty, pos, aft, none⟩ :: rest) := fun _ _ hk => sLt hk h hx hy hn hf
theorem gN {s : Nat} {b b' : Bool} (h : Go P M w0 n I ((d, [], .lit (.bool (b && b'))) :: σ) Df ops Q rest) (hs : opvc σ [] (.tmp s) = some (.lit (.bool b)) := by exact rfl) (hx : opvc σ ((s, true) :: []) x = some (.lit (.bool b')) := by exact rfl) (hn : Nat.blt d n = true := by exact rfl) (hf : chFree σ d = true := by exact rfl) :
    Go P M w0 n I σ Df ops Q (⟨some d, .pick (.tmp s) x (.const (.bool false)), ty, pos, aft, none⟩ :: rest) := fun _ _ hk => sAn hk h hs hx hn hf
theorem gR {s : Nat} {b b' : Bool} (h : Go P M w0 n I ((d, [], .lit (.bool (b || b'))) :: σ) Df ops Q rest) (hs : opvc σ [] (.tmp s) = some (.lit (.bool b)) := by exact rfl) (hx : opvc σ ((s, false) :: []) x = some (.lit (.bool b')) := by exact rfl) (hn : Nat.blt d n = true := by exact rfl) (hf : chFree σ d = true := by exact rfl) :
    Go P M w0 n I σ Df ops Q (⟨some d, .pick (.tmp s) (.const (.bool true)) x, ty, pos, aft, none⟩ :: rest) := fun _ _ hk => sOr hk h hs hx hn hf
theorem gF {b off : Nat} {fs : Array Field} {j : Nat} {f : Field} (o' : Nat) (hu : P.underlying t = some (.struct fs)) (h : Go P M w0 n I ((d, [], .lit (.pointer (some ⟨b, o', none⟩))) :: σ) Df ops Q rest) (hx : opvc σ [] x = some (.lit (.pointer (some ⟨b, off, none⟩))) := by exact rfl) (hf' : fs[j]? = some f := by exact rfl)
    (hs : ((P.info? f.type).map fun i => Nat.beq i.size 0) = some false := by kernel_rfl) (ho : off + f.offset = o' := by exact rfl) (hn : Nat.blt d n = true := by exact rfl) (hf : chFree σ d = true := by exact rfl) :
    Go P M w0 n I σ Df ops Q (⟨some d, .fieldAddr t x j, ty, pos, aft, none⟩ :: rest) := fun _ _ hk => sFp o' hk hu h hx hf' hs ho hn hf
theorem gB {t0 : TypeId} {b off : Nat} {cs : List AV} {D : TypeDesc} (j : Nat) (hu : P.underlying t = some D) (h : Go P M w0 n I ((d, [], u) :: σ) Df ops Q rest) (hx : opvc σ [] x = some (.lit (.pointer (some ⟨b, off, none⟩))) := by exact rfl) (hj : I[j]? = some (blk b t0 cs) := by exact rfl) (hd : isAggD D = false := by exact rfl) (hy : cs[off]? = some u := by exact rfl) (hn : Nat.blt d n = true := by exact rfl) (hf : chFree σ d = true := by exact rfl) :
    Go P M w0 n I σ Df ops Q (⟨some d, .load t x, ty, pos, aft, none⟩ :: rest) := fun _ _ hk => lf hk (f_loadBlk1 hk h0 hj hx hu hd hy) h hn hf
theorem gX {cs : List AV} {i : Nat} (h : Go P M w0 n I ((d, [], u) :: σ) Df ops Q rest) (hx : opvc σ [] x = some (.tup cs) := by exact rfl) (hi : cs[i]? = some u := by exact rfl) (hn : Nat.blt d n = true := by exact rfl) (hf : chFree σ d = true := by exact rfl) :
    Go P M w0 n I σ Df ops Q (⟨some d, .extract x i, ty, pos, aft, none⟩ :: rest) := fun _ _ hk => lf hk (f_extract hk h0 hx hi) h hn hf
theorem gm {j g : Nat} {want b : Bool} {c0 : Ch} (h : Go P M w0 n I ((d, (g, want) :: c0, u) :: σ) Df ops Q rest) (hj : (ops[j]?).bind (·.dst) = some g := by exact rfl) (hgn : Nat.blt g n = true := by exact rfl) (hl : look σ g = some (c0, .lit (.bool b)) := by exact rfl) (hx : opvc σ ((g, want) :: c0) x = some u := by exact rfl) (hn : Nat.blt d n = true := by exact rfl) (hf : chFree σ d = true := by exact rfl) (hcf : cFree ((g, want) :: c0) d = true := by exact rfl) :
    Go P M w0 n I σ Df ops Q (⟨some d, .move x, ty, pos, aft, some (j, want)⟩ :: rest) := fun _ _ hk => lg hk hj hgn hl (fun hc => f_move hk hc hx) h hn hf hcf
theorem wc {α : Type} {A B : Option α} {r : α} {t : Operand} {x y : Code} {b : Bool} (hk : S M w0 a w n I σ Df) (h : (if b = true then A else B) = some r) (h1 : A = some r → b = true → x.wp P Q a w) (h2 : B = some r → b = false → y.wp P Q a w) (ht : opvc σ [] t = some (.lit (.bool b)) := by exact rfl) :
    (Code.cond t x y).wp P Q a w := wcondF hk h ht h1 h2
end
end Go.Proofs.Ytbjbgodcenopnaa.FW
namespace Go.Proofs.Ytbjbgodcenopnaa
set_option linter.unusedVariables false
set_option maxRecDepth 20000
set_option maxHeartbeats 10000000
def c_str (x : List UInt8) : List FW.AV := [.lit (.string (FW.B x))]
def c_i64 (x : Int) : List FW.AV := [.lit (.int .i64 x)]
def c_u8 (x : Int) : List FW.AV := [.lit (.int .u8 x)]
structure ApiValue where
  Kind : Int
  B : Bool
  N : Int
  F : Nat
  S : List UInt8
  L : List ApiValue
instance : Inhabited ApiValue := ⟨⟨default, default, default, default, default, []⟩⟩
mutual
def ApiValue.cellsR : ApiValue → List FW.AV
  | ⟨x0, x1, x2, x3, x4, x5⟩ => [.lit (.int .i64 x0), .lit (.bool x1), .lit (.int .i64 x2), .lit (.float .f64 x3), .lit (.string (FW.B x4)), .row (r_ApiValue_cells x5)]
def r_ApiValue_cells : List ApiValue → List (List FW.AV)
  | [] => []
  | x :: r => ApiValue.cellsR x :: r_ApiValue_cells r
end
def ApiValue.cells (x : ApiValue) : List FW.AV := [.lit (.int .i64 x.Kind), .lit (.bool x.B), .lit (.int .i64 x.N), .lit (.float .f64 x.F), .lit (.string (FW.B x.S)), .row (r_ApiValue_cells x.L)]
theorem ApiValue.cellsR_eq (x : ApiValue) : x.cellsR = x.cells := by cases x; simp [ApiValue.cellsR, ApiValue.cells]
theorem r_ApiValue_cells_eq : ∀ l, r_ApiValue_cells l = l.map ApiValue.cells
  | [] => by simp [r_ApiValue_cells]
  | x :: r => by simp [r_ApiValue_cells, ApiValue.cellsR_eq, r_ApiValue_cells_eq r]
structure ApiPred where
  Op : List UInt8
  L : List ApiValue
  Kids : List ApiPred
instance : Inhabited ApiPred := ⟨⟨default, [], []⟩⟩
mutual
def ApiPred.cellsR : ApiPred → List FW.AV
  | ⟨x0, x1, x2⟩ => [.lit (.string (FW.B x0)), .row (r_ApiValue_cells x1), .row (r_ApiPred_cells x2)]
def r_ApiPred_cells : List ApiPred → List (List FW.AV)
  | [] => []
  | x :: r => ApiPred.cellsR x :: r_ApiPred_cells r
end
def ApiPred.cells (x : ApiPred) : List FW.AV := [.lit (.string (FW.B x.Op)), .row (r_ApiValue_cells x.L), .row (r_ApiPred_cells x.Kids)]
theorem ApiPred.cellsR_eq (x : ApiPred) : x.cellsR = x.cells := by cases x; simp [ApiPred.cellsR, ApiPred.cells]
theorem r_ApiPred_cells_eq : ∀ l, r_ApiPred_cells l = l.map ApiPred.cells
  | [] => by simp [r_ApiPred_cells]
  | x :: r => by simp [r_ApiPred_cells, ApiPred.cellsR_eq, r_ApiPred_cells_eq r]
mutual
structure ApiArg where
  Kind : Int
  V : ApiValue
  P : ApiPred
  T : List ApiStep
structure ApiStep where
  Name : List UInt8
  Args : List ApiArg
end
instance : Inhabited ApiArg := ⟨⟨default, default, default, []⟩⟩
instance : Inhabited ApiStep := ⟨⟨default, []⟩⟩
mutual
def ApiArg.cellsR : ApiArg → List FW.AV
  | ⟨x0, x1, x2, x3⟩ => [.lit (.int .i64 x0)] ++ ApiValue.cells x1 ++ ApiPred.cells x2 ++ [.row (r_ApiStep_cells x3)]
def r_ApiArg_cells : List ApiArg → List (List FW.AV)
  | [] => []
  | x :: r => ApiArg.cellsR x :: r_ApiArg_cells r
def ApiStep.cellsR : ApiStep → List FW.AV
  | ⟨x0, x1⟩ => [.lit (.string (FW.B x0)), .row (r_ApiArg_cells x1)]
def r_ApiStep_cells : List ApiStep → List (List FW.AV)
  | [] => []
  | x :: r => ApiStep.cellsR x :: r_ApiStep_cells r
end
def ApiArg.cells (x : ApiArg) : List FW.AV := [.lit (.int .i64 x.Kind)] ++ ApiValue.cells x.V ++ ApiPred.cells x.P ++ [.row (r_ApiStep_cells x.T)]
theorem ApiArg.cellsR_eq (x : ApiArg) : x.cellsR = x.cells := by cases x; simp [ApiArg.cellsR, ApiArg.cells]
theorem r_ApiArg_cells_eq : ∀ l, r_ApiArg_cells l = l.map ApiArg.cells
  | [] => by simp [r_ApiArg_cells]
  | x :: r => by simp [r_ApiArg_cells, ApiArg.cellsR_eq, r_ApiArg_cells_eq r]
def ApiStep.cells (x : ApiStep) : List FW.AV := [.lit (.string (FW.B x.Name)), .row (r_ApiArg_cells x.Args)]
theorem ApiStep.cellsR_eq (x : ApiStep) : x.cellsR = x.cells := by cases x; simp [ApiStep.cellsR, ApiStep.cells]
theorem r_ApiStep_cells_eq : ∀ l, r_ApiStep_cells l = l.map ApiStep.cells
  | [] => by simp [r_ApiStep_cells]
  | x :: r => by simp [r_ApiStep_cells, ApiStep.cellsR_eq, r_ApiStep_cells_eq r]
def r_c_str (l : List (List UInt8)) : List (List FW.AV) := l.map c_str
theorem r_c_str_eq : ∀ l, r_c_str l = l.map c_str := fun _ => rfl
def r_c_i64 (l : List Int) : List (List FW.AV) := l.map c_i64
theorem r_c_i64_eq : ∀ l, r_c_i64 l = l.map c_i64 := fun _ => rfl
structure ApiIns where
  Op : Int
  S : List (List UInt8)
  N : List Int
  V : List ApiValue
  P : ApiPred
  Kids : List Int
  Flag : Bool
  deriving Inhabited
def ApiIns.cells (x : ApiIns) : List FW.AV := [.lit (.int .i64 x.Op)] ++ [.row (r_c_str x.S)] ++ [.row (r_c_i64 x.N)] ++ [.row (r_ApiValue_cells x.V)] ++ ApiPred.cells x.P ++ [.row (r_c_i64 x.Kids)] ++ [.lit (.bool x.Flag)]
def r_ApiIns_cells (l : List ApiIns) : List (List FW.AV) := l.map ApiIns.cells
theorem r_ApiIns_cells_eq : ∀ l, r_ApiIns_cells l = l.map ApiIns.cells := fun _ => rfl
def c_s_ApiIns_cells (x : List ApiIns) : List FW.AV := [.row (r_ApiIns_cells x)]
def r_c_s_ApiIns_cells (l : List (List ApiIns)) : List (List FW.AV) := l.map c_s_ApiIns_cells
theorem r_c_s_ApiIns_cells_eq : ∀ l, r_c_s_ApiIns_cells l = l.map c_s_ApiIns_cells := fun _ => rfl
structure ApiProg where
  Bodies : List (List ApiIns)
  deriving Inhabited
def ApiProg.cells (x : ApiProg) : List FW.AV := [.row (r_c_s_ApiIns_cells x.Bodies)]
structure ApiWord where
  Kind : Int
  S : List UInt8
  N : Int
  F : Nat
  At : Int
  deriving Inhabited
def ApiWord.cells (x : ApiWord) : List FW.AV := [.lit (.int .i64 x.Kind), .lit (.string (FW.B x.S)), .lit (.int .i64 x.N), .lit (.float .f64 x.F), .lit (.int .i64 x.At)]
def r_ApiWord_cells (l : List ApiWord) : List (List FW.AV) := l.map ApiWord.cells
theorem r_ApiWord_cells_eq : ∀ l, r_ApiWord_cells l = l.map ApiWord.cells := fun _ => rfl
structure St12 where
  L : List ApiWord
  I : Int
  Deep : Int
  Steps : Int
  At : Int
  E : Int
  deriving Inhabited
def St12.cells (x : St12) : List FW.AV := [.row (r_ApiWord_cells x.L), .lit (.int .i64 x.I), .lit (.int .i64 x.Deep), .lit (.int .i64 x.Steps), .lit (.int .i64 x.At), .lit (.int .i64 x.E)]
def r_c_u8 (l : List Int) : List (List FW.AV) := l.map c_u8
theorem r_c_u8_eq : ∀ l, r_c_u8 l = l.map c_u8 := fun _ => rfl
structure OVarcstr_9 where
  v : List UInt8
  deriving Inhabited
abbrev OVarcstr_9.items (b : Nat) (x : OVarcstr_9) : List FW.It := [FW.blk b 9 [.lit (.string (FW.B x.v))]]
abbrev OVarApiStep := ApiStep
abbrev OVarApiStep.items (b : Nat) (x : OVarApiStep) : List FW.It := [FW.blk b 29 (ApiStep.cells x)]
structure OCM where
  out : List (List ApiIns)
  deriving Inhabited
abbrev OCM.items (b : Nat) (xd_0 : Option Addr) (xc_0 : Nat) (x : OCM) : List FW.It := [FW.blk b 93 [.lit (.slice xd_0 (List.length x.out) xc_0)], FW.orow xd_0 xc_0 55 1 c_s_ApiIns_cells x.out]
abbrev Y1 := OCM → List ApiStep → Option (Int × OCM)
abbrev Y2 := OCM → ApiStep → List ApiStep → Option (ApiIns × OCM)
abbrev Y3 := OCM → List ApiArg → Option (List Int × OCM)
abbrev Y5 := OCM → List ApiStep → Int → Option (List Int × OCM)
abbrev Y6 := OCM → ApiStep → Option (Int × OCM)
abbrev Y7 := OCM → List ApiStep → Option (ApiIns × OCM)
abbrev Y8 := St12 → Option (St12 × ApiValue × Bool)
abbrev Y9 := St12 → List UInt8 → Option (St12 × List ApiValue)
abbrev Y10 := St12 → Option (St12 × List ApiStep)
abbrev Y11 := St12 → Option (St12 × ApiArg)
abbrev Y12 := St12 → Option (St12 × ApiPred)
def r11_digit.f  (v0 : Int) : Option Int :=
  (if ((decide (48 ≤ v0)) && (decide (v0 ≤ 57))) = true then some ((IntKind.wrap .i64 ((IntKind.wrap .i64 v0) - 48))) else (if ((decide (97 ≤ v0)) && (decide (v0 ≤ 102))) = true then some ((IntKind.wrap .i64 ((IntKind.wrap .i64 ((IntKind.wrap .i64 v0) - 97)) + 10))) else some (16)))
def r11_Quoted.l1 (K : Nat) : Nat → List Int → List UInt8 → Int → Option (List UInt8 × Int)
  | 0, _, _, _ => none
  | kl1 + 1, l1, v0, v5 => (if (decide (v5 < (List.length v0 : Int))) = true then (if ((0 : Int) ≤ v5 ∧ v5 < (List.length v0 : Int)) then (if (decide ((FW.bt v0 v5) = 39)) = true then some ((FW.toB l1), (IntKind.wrap .i64 (v5 + 1))) else (if ((decide ((FW.bt v0 v5) < 32)) || (decide (126 < (FW.bt v0 v5)))) = true then some (([] : List UInt8), 0) else (if (!decide ((FW.bt v0 v5) = 92)) = true then (if ((List.length l1 + List.length ([(FW.bt v0 v5)] : List Int)) * 1 ≤ 140737488355328 ∧ List.length l1 + List.length ([(FW.bt v0 v5)] : List Int) ≤ 140737488355328) then r11_Quoted.l1 K kl1 (l1 ++ ([(FW.bt v0 v5)] : List Int)) v0 (IntKind.wrap .i64 (v5 + 1)) else none) else (if (decide ((IntKind.wrap .i64 (v5 + 1)) < (List.length v0 : Int))) = true → ((0 : Int) ≤ (IntKind.wrap .i64 (v5 + 1)) ∧ (IntKind.wrap .i64 (v5 + 1)) < (List.length v0 : Int)) then (if (decide ((FW.bt v0 (IntKind.wrap .i64 (v5 + 1))) = 39)) = false → (decide ((IntKind.wrap .i64 (v5 + 1)) < (List.length v0 : Int))) = true → ((0 : Int) ≤ (IntKind.wrap .i64 (v5 + 1)) ∧ (IntKind.wrap .i64 (v5 + 1)) < (List.length v0 : Int)) then (if ((decide ((IntKind.wrap .i64 (v5 + 1)) < (List.length v0 : Int))) && ((decide ((FW.bt v0 (IntKind.wrap .i64 (v5 + 1))) = 39)) || (decide ((FW.bt v0 (IntKind.wrap .i64 (v5 + 1))) = 92)))) = true then (if ((0 : Int) ≤ (IntKind.wrap .i64 (v5 + 1)) ∧ (IntKind.wrap .i64 (v5 + 1)) < (List.length v0 : Int)) then (if ((List.length l1 + List.length ([(FW.bt v0 (IntKind.wrap .i64 (v5 + 1)))] : List Int)) * 1 ≤ 140737488355328 ∧ List.length l1 + List.length ([(FW.bt v0 (IntKind.wrap .i64 (v5 + 1)))] : List Int) ≤ 140737488355328) then r11_Quoted.l1 K kl1 (l1 ++ ([(FW.bt v0 (IntKind.wrap .i64 (v5 + 1)))] : List Int)) v0 (IntKind.wrap .i64 (v5 + 2)) else none) else none) else (if (decide ((List.length v0 : Int) ≤ (IntKind.wrap .i64 (v5 + 3)))) = false → ((0 : Int) ≤ (IntKind.wrap .i64 (v5 + 1)) ∧ (IntKind.wrap .i64 (v5 + 1)) < (List.length v0 : Int)) then (if ((decide ((List.length v0 : Int) ≤ (IntKind.wrap .i64 (v5 + 3)))) || (!decide ((FW.bt v0 (IntKind.wrap .i64 (v5 + 1))) = 120))) = false → ((0 : Int) ≤ (IntKind.wrap .i64 (v5 + 2)) ∧ (IntKind.wrap .i64 (v5 + 2)) < (List.length v0 : Int)) then (Option.bind (if ((decide ((List.length v0 : Int) ≤ (IntKind.wrap .i64 (v5 + 3)))) || (!decide ((FW.bt v0 (IntKind.wrap .i64 (v5 + 1))) = 120))) = false then r11_digit.f (FW.bt v0 (IntKind.wrap .i64 (v5 + 2))) else some default) fun t1 => (if (((decide ((List.length v0 : Int) ≤ (IntKind.wrap .i64 (v5 + 3)))) || (!decide ((FW.bt v0 (IntKind.wrap .i64 (v5 + 1))) = 120))) || (decide (15 < t1))) = false → ((0 : Int) ≤ (IntKind.wrap .i64 (v5 + 3)) ∧ (IntKind.wrap .i64 (v5 + 3)) < (List.length v0 : Int)) then (Option.bind (if (((decide ((List.length v0 : Int) ≤ (IntKind.wrap .i64 (v5 + 3)))) || (!decide ((FW.bt v0 (IntKind.wrap .i64 (v5 + 1))) = 120))) || (decide (15 < t1))) = false then r11_digit.f (FW.bt v0 (IntKind.wrap .i64 (v5 + 3))) else some default) fun t2 => (if ((((decide ((List.length v0 : Int) ≤ (IntKind.wrap .i64 (v5 + 3)))) || (!decide ((FW.bt v0 (IntKind.wrap .i64 (v5 + 1))) = 120))) || (decide (15 < t1))) || (decide (15 < t2))) = true then some (([] : List UInt8), 0) else (if ((0 : Int) ≤ (IntKind.wrap .i64 (v5 + 2)) ∧ (IntKind.wrap .i64 (v5 + 2)) < (List.length v0 : Int)) then (Option.bind (r11_digit.f (FW.bt v0 (IntKind.wrap .i64 (v5 + 2)))) fun t3 => (if ((0 : Int) ≤ (IntKind.wrap .i64 (v5 + 3)) ∧ (IntKind.wrap .i64 (v5 + 3)) < (List.length v0 : Int)) then (Option.bind (r11_digit.f (FW.bt v0 (IntKind.wrap .i64 (v5 + 3)))) fun t4 => (if ((List.length l1 + List.length ([(IntKind.wrap .u8 (IntKind.wrap .i64 ((IntKind.wrap .i64 (16 * t3)) + t4)))] : List Int)) * 1 ≤ 140737488355328 ∧ List.length l1 + List.length ([(IntKind.wrap .u8 (IntKind.wrap .i64 ((IntKind.wrap .i64 (16 * t3)) + t4)))] : List Int) ≤ 140737488355328) then r11_Quoted.l1 K kl1 (l1 ++ ([(IntKind.wrap .u8 (IntKind.wrap .i64 ((IntKind.wrap .i64 (16 * t3)) + t4)))] : List Int)) v0 (IntKind.wrap .i64 (v5 + 4)) else none)) else none)) else none))) else none)) else none) else none)) else none) else none)))) else none) else some (([] : List UInt8), 0))
def r11_Quoted.f (K : Nat) (v0 : List UInt8) : Option (List UInt8 × Int) :=
  (if (decide (v0 = ([] : List UInt8))) = false → ((0 : Int) ≤ 0 ∧ 0 < (List.length v0 : Int)) then (if ((decide (v0 = ([] : List UInt8))) || (!decide ((FW.bt v0 0) = 39))) = true then some (([] : List UInt8), 0) else r11_Quoted.l1 K K ([] : List Int) v0 1) else none)
def r01_Canon.f  (v0 : Nat) : Option Int :=
  (if (FW.fneq v0 v0) = true then some (9221120237041090561) else some (((v0 : Nat) : Int)))
def r11_Int.l1 (K : Nat) : Nat → Bool → List UInt8 → Int → Int → Option (Int × Bool)
  | 0, _, _, _, _ => none
  | kl1 + 1, v4, v5, v6, v7 => (if (decide (v7 < (List.length v5 : Int))) = true then (if ((0 : Int) ≤ v7 ∧ v7 < (List.length v5 : Int)) then (if (decide ((FW.bt v5 v7) < 48)) = false → ((0 : Int) ≤ v7 ∧ v7 < (List.length v5 : Int)) then (if ((decide ((FW.bt v5 v7) < 48)) || (decide (57 < (FW.bt v5 v7)))) = true then some (0, false) else (if ((0 : Int) ≤ v7 ∧ v7 < (List.length v5 : Int)) then r11_Int.l1 K kl1 v4 v5 (IntKind.wrap .u64 ((IntKind.wrap .u64 ((IntKind.wrap .u64 (v6 * 10)) + (IntKind.wrap .u64 (FW.bt v5 v7)))) - 48)) (IntKind.wrap .i64 (v7 + 1)) else none)) else none) else none) else (if (v4 && (decide (v6 ≤ 9223372036854775808))) = true then some ((IntKind.wrap .i64 (IntKind.wrap .u64 (0 - v6))), true) else (if ((!v4) && (decide (v6 < 9223372036854775808))) = true then some ((IntKind.wrap .i64 v6), true) else some (0, false))))
def r11_Int.j1 (K : Nat) (v4 : Bool) (v5 : List UInt8) : Option (Int × Bool) :=
  (if ((decide (v5 = ([] : List UInt8))) || (decide (19 < (List.length v5 : Int)))) = false → ((0 : Int) ≤ 0 ∧ 0 < (List.length v5 : Int)) then (if (((decide (v5 = ([] : List UInt8))) || (decide (19 < (List.length v5 : Int)))) || ((decide ((FW.bt v5 0) = 48)) && ((decide (1 < (List.length v5 : Int))) || v4))) = true then some (0, false) else r11_Int.l1 K K v4 v5 0 0) else none)
def r11_Int.f (K : Nat) (v0 : List UInt8) : Option (Int × Bool) :=
  (if (!decide (v0 = ([] : List UInt8))) = true → ((0 : Int) ≤ 0 ∧ 0 < (List.length v0 : Int)) then (if ((!decide (v0 = ([] : List UInt8))) && (decide ((FW.bt v0 0) = 45))) = true then (if ((0 : Int) ≤ 1 ∧ 1 ≤ (List.length v0 : Int)) then r11_Int.j1 K ((!decide (v0 = ([] : List UInt8))) && (decide ((FW.bt v0 0) = 45))) (List.drop (Int.toNat 1) v0) else none) else r11_Int.j1 K ((!decide (v0 = ([] : List UInt8))) && (decide ((FW.bt v0 0) = 45))) v0) else none)
def r11_letter.f  (v0 : Int) : Option Bool :=
  some (((((decide (v0 = 95)) || ((decide (97 ≤ v0)) && (decide (v0 ≤ 122)))) || ((decide (65 ≤ v0)) && (decide (v0 ≤ 90)))) || ((decide (48 ≤ v0)) && (decide (v0 ≤ 57)))))
def r11_one.l1 (K : Nat) : Nat → List UInt8 → Int → Int → Bool → Int → Option (ApiWord × Int)
  | 0, _, _, _, _, _ => none
  | kl1 + 1, v5, v6, v7, v8, v9 => (if ((decide (v9 < (List.length v5 : Int))) && v8) = true then (if ((0 : Int) ≤ v9 ∧ v9 < (List.length v5 : Int)) then (Option.bind (r11_digit.f (FW.bt v5 v9)) fun t2 => (if ((0 : Int) ≤ v9 ∧ v9 < (List.length v5 : Int)) then (Option.bind (r11_digit.f (FW.bt v5 v9)) fun t3 => r11_one.l1 K kl1 v5 v6 (IntKind.wrap .u64 ((IntKind.wrap .u64 (v7 * 16)) + (IntKind.wrap .u64 t3))) (decide (t2 < 16)) (IntKind.wrap .i64 (v9 + 1))) else none)) else none) else (Option.bind (if (!v8) = false then r01_Canon.f (Int.toNat v7) else some default) fun t4 => (if ((!v8) || (!decide (t4 = v7))) = true then some ((⟨0, [], 0, 0, 0⟩ : ApiWord), 0) else some ((⟨3, [], 0, (Int.toNat v7), 0⟩ : ApiWord), (IntKind.wrap .i64 (v6 + 1))))))
def r11_one.l2 (K : Nat) : Nat → List UInt8 → Int → Option (ApiWord × Int)
  | 0, _, _ => none
  | kl2 + 1, v0, v13 => (if (decide (v13 < (List.length v0 : Int))) = true → ((0 : Int) ≤ v13 ∧ v13 < (List.length v0 : Int)) then (if ((decide (v13 < (List.length v0 : Int))) && (decide (48 ≤ (FW.bt v0 v13)))) = true → ((0 : Int) ≤ v13 ∧ v13 < (List.length v0 : Int)) then (if (((decide (v13 < (List.length v0 : Int))) && (decide (48 ≤ (FW.bt v0 v13)))) && (decide ((FW.bt v0 v13) ≤ 57))) = true then r11_one.l2 K kl2 v0 (IntKind.wrap .i64 (v13 + 1)) else (if ((0 : Int) ≤ v13 ∧ v13 ≤ (List.length v0 : Int)) then (Option.bind (r11_Int.f K (List.take (Int.toNat v13) v0)) fun t6 => (if (!t6.2) = true then some ((⟨0, [], 0, 0, 0⟩ : ApiWord), 0) else some ((⟨2, [], t6.1, 0, 0⟩ : ApiWord), v13))) else none)) else none) else none)
def r11_one.l3 (K : Nat) : Nat → List UInt8 → Int → Option (ApiWord × Int)
  | 0, _, _ => none
  | kl3 + 1, v0, v16 => (if (decide (v16 < (List.length v0 : Int))) = true → ((0 : Int) ≤ v16 ∧ v16 < (List.length v0 : Int)) then (Option.bind (if (decide (v16 < (List.length v0 : Int))) = true then r11_letter.f (FW.bt v0 v16) else some default) fun t8 => (if ((decide (v16 < (List.length v0 : Int))) && t8) = true then r11_one.l3 K kl3 v0 (IntKind.wrap .i64 (v16 + 1)) else (if (decide (16 < v16)) = true then some ((⟨0, [], 0, 0, 0⟩ : ApiWord), 0) else (if ((0 : Int) ≤ v16 ∧ v16 ≤ (List.length v0 : Int)) then some ((⟨1, (List.take (Int.toNat v16) v0), 0, 0, 0⟩ : ApiWord), v16) else none)))) else none)
def r11_one.f (K : Nat) (v0 : List UInt8) : Option (ApiWord × Int) :=
  (if ((0 : Int) ≤ 0 ∧ 0 < (List.length v0 : Int)) then (if ((decide ((FW.bt v0 0) = 102)) && (decide (1 < (List.length v0 : Int)))) = true → ((0 : Int) ≤ 1 ∧ 1 < (List.length v0 : Int)) then (if (((decide ((FW.bt v0 0) = 102)) && (decide (1 < (List.length v0 : Int)))) && (decide ((FW.bt v0 1) = 39))) = true then (if ((0 : Int) ≤ 1 ∧ 1 ≤ (List.length v0 : Int)) then (Option.bind (r11_Quoted.f K (List.drop (Int.toNat 1) v0)) fun t1 => r11_one.l1 K K t1.1 t1.2 0 ((decide (0 < t1.2)) && (decide ((List.length t1.1 : Int) = 16))) 0) else none) else (if (decide ((FW.bt v0 0) = 39)) = true then (Option.bind (r11_Quoted.f K v0) fun t5 => (if (decide (500 < (List.length t5.1 : Int))) = true then some ((⟨0, [], 0, 0, 0⟩ : ApiWord), 0) else some ((⟨4, t5.1, 0, 0, 0⟩ : ApiWord), t5.2))) else (if ((decide ((FW.bt v0 0) = 45)) || ((decide (48 ≤ (FW.bt v0 0))) && (decide ((FW.bt v0 0) ≤ 57)))) = true then r11_one.l2 K K v0 1 else (Option.bind (r11_letter.f (FW.bt v0 0)) fun t7 => (if t7 = true then r11_one.l3 K K v0 1 else (if ((((((decide ((FW.bt v0 0) = 46)) || (decide ((FW.bt v0 0) = 40))) || (decide ((FW.bt v0 0) = 41))) || (decide ((FW.bt v0 0) = 44))) || (decide ((FW.bt v0 0) = 91))) || (decide ((FW.bt v0 0) = 93))) = true then (if ((0 : Int) ≤ 1 ∧ 1 ≤ (List.length v0 : Int)) then some ((⟨5, (List.take (Int.toNat 1) v0), 0, 0, 0⟩ : ApiWord), 1) else none) else some ((⟨0, [], 0, 0, 0⟩ : ApiWord), 0))))))) else none) else none)
def r11_Words.l1 (K : Nat) : Nat → List ApiWord → List UInt8 → Int → Option (List ApiWord × Int × Int)
  | 0, _, _, _ => none
  | kl1 + 1, l1, v0, v6 => (if (decide (v6 < (List.length v0 : Int))) = true then (if ((0 : Int) ≤ v6 ∧ v6 < (List.length v0 : Int)) then (if (decide ((FW.bt v0 v6) = 32)) = true then r11_Words.l1 K kl1 l1 v0 (IntKind.wrap .i64 (v6 + 1)) else (if ((0 : Int) ≤ v6 ∧ v6 ≤ (List.length v0 : Int)) then (Option.bind (r11_one.f K (List.drop (Int.toNat v6) v0)) fun t1 => (if (decide (t1.2 = 0)) = true then some ([], v6, 110) else (if (decide ((List.length l1 : Int) = 1500)) = true then some ([], v6, 3) else (if ((List.length l1 + List.length ([(⟨t1.1.Kind, t1.1.S, t1.1.N, t1.1.F, v6⟩ : ApiWord)] : List ApiWord)) * 48 ≤ 140737488355328 ∧ List.length l1 + List.length ([(⟨t1.1.Kind, t1.1.S, t1.1.N, t1.1.F, v6⟩ : ApiWord)] : List ApiWord) ≤ 140737488355328) then r11_Words.l1 K kl1 (l1 ++ ([(⟨t1.1.Kind, t1.1.S, t1.1.N, t1.1.F, v6⟩ : ApiWord)] : List ApiWord)) v0 (IntKind.wrap .i64 (v6 + t1.2)) else none)))) else none)) else none) else (if ((List.length l1 + List.length ([(⟨0, [], 0, 0, (List.length v0 : Int)⟩ : ApiWord)] : List ApiWord)) * 48 ≤ 140737488355328 ∧ List.length l1 + List.length ([(⟨0, [], 0, 0, (List.length v0 : Int)⟩ : ApiWord)] : List ApiWord) ≤ 140737488355328) then some ((l1 ++ ([(⟨0, [], 0, 0, (List.length v0 : Int)⟩ : ApiWord)] : List ApiWord)), 0, 0) else none))
def r11_Words.f (K : Nat) (v0 : List UInt8) : Option (List ApiWord × Int × Int) :=
  (if (decide (3000 < (List.length v0 : Int))) = true then some ([], 3000, 3) else r11_Words.l1 K K ([] : List ApiWord) v0 0)
def p12_is.f  (v0 : St12) (v1 : List UInt8) : Option Bool :=
  (if (decide (v0.E = 0)) = true → ((0 : Int) ≤ v0.I ∧ v0.I < (List.length v0.L : Int)) then (if ((decide (v0.E = 0)) && (decide (((List.getD v0.L (Int.toNat v0.I) default).Kind) = 5))) = true → ((0 : Int) ≤ v0.I ∧ v0.I < (List.length v0.L : Int)) then some ((((decide (v0.E = 0)) && (decide (((List.getD v0.L (Int.toNat v0.I) default).Kind) = 5))) && (decide (((List.getD v0.L (Int.toNat v0.I) default).S) = v1)))) else none) else none)
def p12_fail.j1  (y1 : St12) : Option St12 :=
  some (y1)
def p12_fail.f  (v0 : St12) (v1 : Int) : Option St12 :=
  (if (decide (v0.E = 0)) = true then (if ((0 : Int) ≤ v0.I ∧ v0.I < (List.length v0.L : Int)) then p12_fail.j1 (⟨v0.L, v0.I, v0.Deep, v0.Steps, (List.getD v0.L (Int.toNat v0.I) default).At, v1⟩ : St12) else none) else p12_fail.j1 v0)
def p12_sign.f  (v0 : St12) (v1 : List UInt8) : Option St12 :=
  (if (!decide (v0.E = 0)) = true then some (v0) else (Option.bind (p12_is.f v0 v1) fun t1 => (if (!t1) = true then (Option.bind (p12_fail.f v0 120) fun t2 => some (t2)) else some ((⟨v0.L, (IntKind.wrap .i64 (v0.I + 1)), v0.Deep, v0.Steps, v0.At, v0.E⟩ : St12)))))
def p12_into.f  (v0 : St12) : Option St12 :=
  (if (!decide (v0.E = 0)) = true then some (v0) else (if (decide (12 ≤ v0.Deep)) = true then (Option.bind (p12_fail.f v0 3) fun t1 => some (t1)) else some ((⟨v0.L, v0.I, (IntKind.wrap .i64 (v0.Deep + 1)), v0.Steps, v0.At, v0.E⟩ : St12))))
def p12_value.j2 (zv : Y8) (zvs : Y9) (K : Nat) (y5 : ApiValue) (y1 : St12) (v7 : Bool) : Option (St12 × ApiValue × Bool) :=
  some (y1, y5, v7)
def p12_value.j1 (zv : Y8) (zvs : Y9) (K : Nat) (y5 : ApiValue) (y1 : St12) (v7 : Bool) : Option (St12 × ApiValue × Bool) :=
  (if v7 = true then p12_value.j2 zv zvs K y5 (⟨y1.L, (IntKind.wrap .i64 (y1.I + 1)), y1.Deep, y1.Steps, y1.At, y1.E⟩ : St12) v7 else p12_value.j2 zv zvs K y5 y1 v7)
def p12_value.b (zv : Y8) (zvs : Y9) (K : Nat) (v0 : St12) : Option (St12 × ApiValue × Bool) :=
  (if (!decide (v0.E = 0)) = true then some (v0, (⟨0, false, 0, 0, [], []⟩ : ApiValue), false) else (if ((0 : Int) ≤ v0.I ∧ v0.I < (List.length v0.L : Int)) then (if (decide (((List.getD v0.L (Int.toNat v0.I) default).Kind) = 2)) = true then p12_value.j1 zv zvs K (⟨2, false, (List.getD v0.L (Int.toNat v0.I) default).N, 0, [], []⟩ : ApiValue) v0 true else (if (decide (((List.getD v0.L (Int.toNat v0.I) default).Kind) = 3)) = true then p12_value.j1 zv zvs K (⟨3, false, 0, (List.getD v0.L (Int.toNat v0.I) default).F, [], []⟩ : ApiValue) v0 true else (if (decide (((List.getD v0.L (Int.toNat v0.I) default).Kind) = 4)) = true then p12_value.j1 zv zvs K (⟨4, false, 0, 0, (List.getD v0.L (Int.toNat v0.I) default).S, []⟩ : ApiValue) v0 true else (if ((decide (((List.getD v0.L (Int.toNat v0.I) default).Kind) = 1)) && (decide (((List.getD v0.L (Int.toNat v0.I) default).S) = ([116, 114, 117, 101] : List UInt8)))) = true then p12_value.j1 zv zvs K (⟨1, true, 0, 0, [], []⟩ : ApiValue) v0 true else (if ((decide (((List.getD v0.L (Int.toNat v0.I) default).Kind) = 1)) && (decide (((List.getD v0.L (Int.toNat v0.I) default).S) = ([102, 97, 108, 115, 101] : List UInt8)))) = true then p12_value.j1 zv zvs K (⟨1, false, 0, 0, [], []⟩ : ApiValue) v0 true else (if ((decide (((List.getD v0.L (Int.toNat v0.I) default).Kind) = 1)) && (decide (((List.getD v0.L (Int.toNat v0.I) default).S) = ([110, 117, 108, 108] : List UInt8)))) = true then p12_value.j1 zv zvs K (⟨0, false, 0, 0, [], []⟩ : ApiValue) v0 true else (Option.bind (p12_is.f v0 ([91] : List UInt8)) fun t1 => (if t1 = true then (Option.bind (p12_into.f (⟨v0.L, (IntKind.wrap .i64 (v0.I + 1)), v0.Deep, v0.Steps, v0.At, v0.E⟩ : St12)) fun t2 => (Option.bind (zvs t2 ([93] : List UInt8)) fun t3 => some ((⟨t3.1.L, t3.1.I, v0.Deep, t3.1.Steps, t3.1.At, t3.1.E⟩ : St12), (⟨5, false, 0, 0, [], t3.2⟩ : ApiValue), (decide (t3.1.E = 0))))) else p12_value.j1 zv zvs K (⟨0, false, 0, 0, [], []⟩ : ApiValue) v0 false)))))))) else none))
def p12_values.j3 (zv : Y8) (zvs : Y9) (s_l1 : List ApiValue → St12 → List UInt8 → Option (St12 × List ApiValue)) (K : Nat) (l3 : List ApiValue) (y5 : ApiValue) (y1 : St12) (v1 : List UInt8) : Option (St12 × List ApiValue) :=
  (if ((List.length l3 + List.length ([y5] : List ApiValue)) * 72 ≤ 140737488355328 ∧ List.length l3 + List.length ([y5] : List ApiValue) ≤ 140737488355328) then s_l1 (l3 ++ ([y5] : List ApiValue)) y1 v1 else none)
def p12_values.j2 (zv : Y8) (zvs : Y9) (s_l1 : List ApiValue → St12 → List UInt8 → Option (St12 × List ApiValue)) (K : Nat) (l3 : List ApiValue) (y1 : St12) (v1 : List UInt8) : Option (St12 × List ApiValue) :=
  (Option.bind (zv y1) fun t2 => (if (!t2.2.2) = true then (Option.bind (p12_fail.f t2.1 120) fun t3 => p12_values.j3 zv zvs s_l1 K l3 t2.2.1 t3 v1) else p12_values.j3 zv zvs s_l1 K l3 t2.2.1 t2.1 v1))
def p12_values.j1 (zv : Y8) (zvs : Y9) (s_l1 : List ApiValue → St12 → List UInt8 → Option (St12 × List ApiValue)) (K : Nat) (l3 : List ApiValue) (y1 : St12) (v1 : List UInt8) : Option (St12 × List ApiValue) :=
  (if (decide (12 ≤ (List.length l3 : Int))) = true then (Option.bind (p12_fail.f y1 3) fun t4 => p12_values.j2 zv zvs s_l1 K l3 t4 v1) else p12_values.j2 zv zvs s_l1 K l3 y1 v1)
def p12_values.l1 (zv : Y8) (zvs : Y9) (K : Nat) : Nat → List ApiValue → St12 → List UInt8 → Option (St12 × List ApiValue)
  | 0, _, _, _ => none
  | kl1 + 1, l3, y1, v1 => (Option.bind (if (decide (y1.E = 0)) = true then p12_is.f y1 v1 else some default) fun t1 => (if ((decide (y1.E = 0)) && (!t1)) = true then (if (decide (0 < (List.length l3 : Int))) = true then (Option.bind (p12_sign.f y1 ([44] : List UInt8)) fun t5 => p12_values.j1 zv zvs (p12_values.l1 zv zvs K kl1) K l3 t5 v1) else p12_values.j1 zv zvs (p12_values.l1 zv zvs K kl1) K l3 y1 v1) else (Option.bind (p12_sign.f y1 v1) fun t6 => some (t6, l3))))
def p12_values.b (zv : Y8) (zvs : Y9) (K : Nat) (v0 : St12) (v1 : List UInt8) : Option (St12 × List ApiValue) :=
  p12_values.l1 zv zvs K K ([] : List ApiValue) v0 v1
mutual
def p12_value.f : Nat → St12 → Option (St12 × ApiValue × Bool)
  | 0, _ => none
  | K + 1, v0 => p12_value.b (p12_value.f K) (p12_values.f K) K v0
def p12_values.f : Nat → St12 → List UInt8 → Option (St12 × List ApiValue)
  | 0, _, _ => none
  | K + 1, v0, v1 => p12_values.b (p12_value.f K) (p12_values.f K) K v0 v1
end
def r12_Preds.l1 (K : Nat) : Nat → List UInt8 → List (List UInt8) → Int → Option (Int × Bool)
  | 0, _, _, _ => none
  | kl1 + 1, v0, v4, v5 => (if (decide (v5 < (List.length v4 : Int))) = true then (if ((0 : Int) ≤ v5 ∧ v5 < (List.length v4 : Int)) then (if (decide ((List.getD v4 (Int.toNat v5) default) = v0)) = true then some (1, true) else r12_Preds.l1 K kl1 v0 v4 (IntKind.wrap .i64 (v5 + 1))) else none) else (if (((decide (v0 = ([98, 101, 116, 119, 101, 101, 110] : List UInt8))) || (decide (v0 = ([105, 110, 115, 105, 100, 101] : List UInt8)))) || (decide (v0 = ([111, 117, 116, 115, 105, 100, 101] : List UInt8)))) = true then some (2, true) else some ((-1), ((decide (v0 = ([119, 105, 116, 104, 105, 110] : List UInt8))) || (decide (v0 = ([119, 105, 116, 104, 111, 117, 116] : List UInt8)))))))
def r12_Preds.f (K : Nat) (v0 : List UInt8) : Option (Int × Bool) :=
  r12_Preds.l1 K K v0 ([([101, 113] : List UInt8), ([110, 101, 113] : List UInt8), ([108, 116] : List UInt8), ([108, 116, 101] : List UInt8), ([103, 116] : List UInt8), ([103, 116, 101] : List UInt8), ([115, 116, 97, 114, 116, 105, 110, 103, 87, 105, 116, 104] : List UInt8), ([101, 110, 100, 105, 110, 103, 87, 105, 116, 104] : List UInt8), ([99, 111, 110, 116, 97, 105, 110, 105, 110, 103] : List UInt8)] : List (List UInt8)) 0
def p12_pred.j1 (zpr : Y12) (K : Nat) (y5 : ApiPred) (y4 : St12) (y1 : St12) : Option (St12 × ApiPred) :=
  some ((⟨y1.L, y1.I, y4.Deep, y1.Steps, y1.At, y1.E⟩ : St12), y5)
def p12_pred.j3 (zpr : Y12) (s_l1 : ApiPred → St12 → St12 → Option (St12 × ApiPred)) (K : Nat) (y4 : St12) (y5 : ApiPred) (y1 : St12) : Option (St12 × ApiPred) :=
  (Option.bind (p12_sign.f y1 ([41] : List UInt8)) fun t11 => s_l1 y5 y4 t11)
def p12_pred.j4 (zpr : Y12) (s_l1 : ApiPred → St12 → St12 → Option (St12 × ApiPred)) (K : Nat) (y4 : St12) (y5 : ApiPred) (y6 : St12) (y1 : St12) (v9 : List UInt8) (v127 : List UInt8) (v133 : Bool) : Option (St12 × ApiPred) :=
  (if v133 = true then (if (decide (y1.E = 0)) = true then (Option.bind (zpr y1) fun t12 => p12_pred.j3 zpr s_l1 K y4 (⟨v9, [], ([y5, t12.2] : List ApiPred)⟩ : ApiPred) (⟨t12.1.L, t12.1.I, y1.Deep, t12.1.Steps, t12.1.At, t12.1.E⟩ : St12)) else p12_pred.j3 zpr s_l1 K y4 y5 y1) else (if (decide (v127 = ([110, 101, 103, 97, 116, 101] : List UInt8))) = true then p12_pred.j3 zpr s_l1 K y4 (⟨([110, 111, 116] : List UInt8), [], ([y5] : List ApiPred)⟩ : ApiPred) y1 else (if (decide (y1.E = 0)) = true then (Option.bind (p12_fail.f y6 120) fun t13 => p12_pred.j3 zpr s_l1 K y4 y5 t13) else p12_pred.j3 zpr s_l1 K y4 y5 y1)))
def p12_pred.j2 (zpr : Y12) (s_l1 : ApiPred → St12 → St12 → Option (St12 × ApiPred)) (K : Nat) (y4 : St12) (y5 : ApiPred) (y6 : St12) (y1 : St12) : Option (St12 × ApiPred) :=
  (if (!decide (y1.E = 0)) = true then p12_pred.j1 zpr K y5 y4 y1 else (if ((0 : Int) ≤ y1.I ∧ y1.I < (List.length y1.L : Int)) then (Option.bind (p12_sign.f (⟨y1.L, (IntKind.wrap .i64 (y1.I + 1)), y1.Deep, y1.Steps, y1.At, y1.E⟩ : St12) ([40] : List UInt8)) fun t10 => (if (decide (((List.getD y1.L (Int.toNat y1.I) default).S) = ([97, 110, 100] : List UInt8))) = true then p12_pred.j4 zpr s_l1 K y4 y5 y6 t10 ((List.getD y1.L (Int.toNat y1.I) default).S) ((List.getD y1.L (Int.toNat y1.I) default).S) (decide (((List.getD y1.L (Int.toNat y1.I) default).S) = ([97, 110, 100] : List UInt8))) else p12_pred.j4 zpr s_l1 K y4 y5 y6 t10 ((List.getD y1.L (Int.toNat y1.I) default).S) ((List.getD y1.L (Int.toNat y1.I) default).S) (decide (((List.getD y1.L (Int.toNat y1.I) default).S) = ([111, 114] : List UInt8))))) else none))
def p12_pred.l1 (zpr : Y12) (K : Nat) : Nat → ApiPred → St12 → St12 → Option (St12 × ApiPred)
  | 0, _, _, _ => none
  | kl1 + 1, y5, y4, y1 => (Option.bind (p12_is.f y1 ([46] : List UInt8)) fun t8 => (if t8 = true then (Option.bind (p12_into.f (⟨y1.L, (IntKind.wrap .i64 (y1.I + 1)), y1.Deep, y1.Steps, y1.At, y1.E⟩ : St12)) fun t9 => (if (decide (t9.E = 0)) = true → ((0 : Int) ≤ t9.I ∧ t9.I < (List.length t9.L : Int)) then (if ((decide (t9.E = 0)) && (!decide (((List.getD t9.L (Int.toNat t9.I) default).Kind) = 1))) = true then (Option.bind (p12_fail.f t9 120) fun t14 => p12_pred.j2 zpr (p12_pred.l1 zpr K kl1) K y4 y5 t9 t14) else p12_pred.j2 zpr (p12_pred.l1 zpr K kl1) K y4 y5 t9 t9) else none)) else p12_pred.j1 zpr K y5 y4 y1))
def p12_pred.b (zpr : Y12) (K : Nat) (v0 : St12) : Option (St12 × ApiPred) :=
  (if (!decide (v0.E = 0)) = false → ((0 : Int) ≤ v0.I ∧ v0.I < (List.length v0.L : Int)) then (if ((!decide (v0.E = 0)) || (!decide (((List.getD v0.L (Int.toNat v0.I) default).Kind) = 1))) = true then (Option.bind (p12_fail.f v0 120) fun t1 => some (t1, (⟨[], [], []⟩ : ApiPred))) else (if ((0 : Int) ≤ v0.I ∧ v0.I < (List.length v0.L : Int)) then (Option.bind (r12_Preds.f K ((List.getD v0.L (Int.toNat v0.I) default).S)) fun t2 => (if (!t2.2) = true then (Option.bind (p12_fail.f v0 120) fun t3 => some (t3, (⟨[], [], []⟩ : ApiPred))) else (if ((0 : Int) ≤ v0.I ∧ v0.I < (List.length v0.L : Int)) then (Option.bind (p12_sign.f (⟨v0.L, (IntKind.wrap .i64 (v0.I + 1)), v0.Deep, v0.Steps, v0.At, v0.E⟩ : St12) ([40] : List UInt8)) fun t4 => (Option.bind (p12_into.f t4) fun t5 => (Option.bind (p12_values.f K t5 ([41] : List UInt8)) fun t6 => (if (((decide (t6.1.E = 0)) && (decide (0 ≤ t2.1))) && (!decide ((List.length t6.2 : Int) = t2.1))) = true then (Option.bind (p12_fail.f v0 120) fun t7 => some (t7, (⟨[], [], []⟩ : ApiPred))) else p12_pred.l1 zpr K K (⟨(List.getD v0.L (Int.toNat v0.I) default).S, t6.2, []⟩ : ApiPred) v0 (⟨t6.1.L, t6.1.I, v0.Deep, t6.1.Steps, t6.1.At, t6.1.E⟩ : St12))))) else none))) else none)) else none)
def p12_pred.f : Nat → St12 → Option (St12 × ApiPred)
  | 0, _ => none
  | K + 1, v0 => p12_pred.b (p12_pred.f K) K v0
def p12_steps.j1 (zst : Y10) (zar : Y11) (K : Nat) (l3 : List ApiStep) (y1 : St12) : Option (St12 × List ApiStep) :=
  some (y1, l3)
def p12_steps.j3 (zst : Y10) (zar : Y11) (s_l1 : List ApiStep → St12 → Option (St12 × List ApiStep)) (s_l2 : List ApiArg → List UInt8 → St12 → Option (St12 × List ApiStep)) (K : Nat) (l3 : List ApiStep) (l5 : List ApiArg) (y4_0 : List UInt8) (y1 : St12) : Option (St12 × List ApiStep) :=
  (if (decide (y1.E = 0)) = true then (Option.bind (zar y1) fun t5 => (if ((List.length l5 + List.length ([t5.2] : List ApiArg)) * 168 ≤ 140737488355328 ∧ List.length l5 + List.length ([t5.2] : List ApiArg) ≤ 140737488355328) then s_l2 (l5 ++ ([t5.2] : List ApiArg)) y4_0 t5.1 else none)) else s_l2 l5 y4_0 y1)
def p12_steps.j2 (zst : Y10) (zar : Y11) (s_l1 : List ApiStep → St12 → Option (St12 × List ApiStep)) (s_l2 : List ApiArg → List UInt8 → St12 → Option (St12 × List ApiStep)) (K : Nat) (l3 : List ApiStep) (l5 : List ApiArg) (y4_0 : List UInt8) (y1 : St12) : Option (St12 × List ApiStep) :=
  (if (decide (12 ≤ (List.length l5 : Int))) = true then (Option.bind (p12_fail.f y1 3) fun t6 => p12_steps.j3 zst zar s_l1 s_l2 K l3 l5 y4_0 t6) else p12_steps.j3 zst zar s_l1 s_l2 K l3 l5 y4_0 y1)
def p12_steps.l2 (zst : Y10) (zar : Y11) (s_l1 : List ApiStep → St12 → Option (St12 × List ApiStep)) (K : Nat) (l3 : List ApiStep) : Nat → List ApiArg → List UInt8 → St12 → Option (St12 × List ApiStep)
  | 0, _, _, _ => none
  | kl2 + 1, l5, y4_0, y1 => (Option.bind (if (decide (y1.E = 0)) = true then p12_is.f y1 ([41] : List UInt8) else some default) fun t4 => (if ((decide (y1.E = 0)) && (!t4)) = true then (if (decide (0 < (List.length l5 : Int))) = true then (Option.bind (p12_sign.f y1 ([44] : List UInt8)) fun t7 => p12_steps.j2 zst zar s_l1 (p12_steps.l2 zst zar s_l1 K l3 kl2) K l3 l5 y4_0 t7) else p12_steps.j2 zst zar s_l1 (p12_steps.l2 zst zar s_l1 K l3 kl2) K l3 l5 y4_0 y1) else (Option.bind (p12_sign.f y1 ([41] : List UInt8)) fun t8 => (if ((List.length l3 + List.length ([(⟨y4_0, l5⟩ : ApiStep)] : List ApiStep)) * 40 ≤ 140737488355328 ∧ List.length l3 + List.length ([(⟨y4_0, l5⟩ : ApiStep)] : List ApiStep) ≤ 140737488355328) then (Option.bind (p12_is.f t8 ([46] : List UInt8)) fun t9 => (if (!t9) = true then p12_steps.j1 zst zar K (l3 ++ ([(⟨y4_0, l5⟩ : ApiStep)] : List ApiStep)) t8 else s_l1 (l3 ++ ([(⟨y4_0, l5⟩ : ApiStep)] : List ApiStep)) (⟨t8.L, (IntKind.wrap .i64 (t8.I + 1)), t8.Deep, t8.Steps, t8.At, t8.E⟩ : St12))) else none))))
def p12_steps.l1 (zst : Y10) (zar : Y11) (K : Nat) : Nat → List ApiStep → St12 → Option (St12 × List ApiStep)
  | 0, _, _ => none
  | kl1 + 1, l3, y1 => (if (decide (y1.E = 0)) = true then (if (decide (150 ≤ y1.Steps)) = true then (Option.bind (p12_fail.f y1 3) fun t1 => some (t1, [])) else (if ((0 : Int) ≤ y1.I ∧ y1.I < (List.length y1.L : Int)) then (if (!decide (((List.getD y1.L (Int.toNat y1.I) default).Kind) = 1)) = true then (Option.bind (p12_fail.f (⟨y1.L, y1.I, y1.Deep, (IntKind.wrap .i64 (y1.Steps + 1)), y1.At, y1.E⟩ : St12) 120) fun t2 => some (t2, [])) else (if ((0 : Int) ≤ y1.I ∧ y1.I < (List.length y1.L : Int)) then (Option.bind (p12_sign.f (⟨y1.L, (IntKind.wrap .i64 (y1.I + 1)), y1.Deep, (IntKind.wrap .i64 (y1.Steps + 1)), y1.At, y1.E⟩ : St12) ([40] : List UInt8)) fun t3 => p12_steps.l2 zst zar (p12_steps.l1 zst zar K kl1) K l3 K ([] : List ApiArg) ((List.getD y1.L (Int.toNat y1.I) default).S) t3) else none)) else none)) else p12_steps.j1 zst zar K l3 y1)
def p12_steps.b (zst : Y10) (zar : Y11) (K : Nat) (v0 : St12) : Option (St12 × List ApiStep) :=
  p12_steps.l1 zst zar K K ([] : List ApiStep) v0
def p12_arg.j2 (zst : Y10) (zar : Y11) (K : Nat) (y1 : St12) (v14 : Int) : Option (St12 × ApiArg) :=
  (Option.bind (zst y1) fun t3 => some ((⟨t3.1.L, t3.1.I, v14, t3.1.Steps, t3.1.At, t3.1.E⟩ : St12), (⟨3, (⟨0, false, 0, 0, [], []⟩ : ApiValue), (⟨[], [], []⟩ : ApiPred), t3.2⟩ : ApiArg)))
def p12_arg.j1 (zst : Y10) (zar : Y11) (K : Nat) (y6 : ApiWord) (y1 : St12) : Option (St12 × ApiArg) :=
  (Option.bind (p12_into.f y1) fun t2 => (if (((decide (t2.E = 0)) && (decide (y6.Kind = 1))) && (decide (y6.S = ([95, 95] : List UInt8)))) = true then (Option.bind (p12_sign.f (⟨t2.L, (IntKind.wrap .i64 (t2.I + 1)), t2.Deep, t2.Steps, t2.At, t2.E⟩ : St12) ([46] : List UInt8)) fun t4 => p12_arg.j2 zst zar K t4 y1.Deep) else p12_arg.j2 zst zar K t2 y1.Deep))
def p12_arg.b (zst : Y10) (zar : Y11) (K : Nat) (v0 : St12) : Option (St12 × ApiArg) :=
  (Option.bind (p12_value.f K v0) fun t1 => (if (t1.2.2 || (!decide (t1.1.E = 0))) = true then some (t1.1, (⟨1, t1.2.1, (⟨[], [], []⟩ : ApiPred), []⟩ : ApiArg)) else (if ((0 : Int) ≤ v0.I ∧ v0.I < (List.length v0.L : Int)) then (if (decide (((List.getD v0.L (Int.toNat v0.I) default).Kind) = 1)) = true then (if ((0 : Int) ≤ (IntKind.wrap .i64 (v0.I + 1)) ∧ (IntKind.wrap .i64 (v0.I + 1)) < (List.length v0.L : Int)) then (Option.bind (r12_Preds.f K ((List.getD v0.L (Int.toNat v0.I) default).S)) fun t5 => (if (t5.2 && ((decide (((List.getD v0.L (Int.toNat (IntKind.wrap .i64 (v0.I + 1))) default).Kind) = 5)) && (decide (((List.getD v0.L (Int.toNat (IntKind.wrap .i64 (v0.I + 1))) default).S) = ([40] : List UInt8))))) = true then (Option.bind (p12_pred.f K v0) fun t6 => some (t6.1, (⟨2, (⟨0, false, 0, 0, [], []⟩ : ApiValue), t6.2, []⟩ : ApiArg))) else (if ((!((decide (((List.getD v0.L (Int.toNat (IntKind.wrap .i64 (v0.I + 1))) default).Kind) = 5)) && (decide (((List.getD v0.L (Int.toNat (IntKind.wrap .i64 (v0.I + 1))) default).S) = ([40] : List UInt8))))) && (!decide (((List.getD v0.L (Int.toNat v0.I) default).S) = ([95, 95] : List UInt8)))) = true then some ((⟨v0.L, (IntKind.wrap .i64 (v0.I + 1)), v0.Deep, v0.Steps, v0.At, v0.E⟩ : St12), (⟨4, (⟨4, false, 0, 0, (List.getD v0.L (Int.toNat v0.I) default).S, []⟩ : ApiValue), (⟨[], [], []⟩ : ApiPred), []⟩ : ApiArg)) else p12_arg.j1 zst zar K (List.getD v0.L (Int.toNat v0.I) default) v0))) else none) else p12_arg.j1 zst zar K (List.getD v0.L (Int.toNat v0.I) default) v0) else none)))
mutual
def p12_steps.f : Nat → St12 → Option (St12 × List ApiStep)
  | 0, _ => none
  | K + 1, v0 => p12_steps.b (p12_steps.f K) (p12_arg.f K) K v0
def p12_arg.f : Nat → St12 → Option (St12 × ApiArg)
  | 0, _ => none
  | K + 1, v0 => p12_arg.b (p12_steps.f K) (p12_arg.f K) K v0
end
def r12_Parse.j1 (K : Nat) (y1 : St12) (v9 : List ApiStep) : Option (List ApiStep × Int × Int) :=
  (if (!decide (y1.E = 0)) = true then some ([], y1.At, y1.E) else some (v9, 0, 0))
def r12_Parse.f (K : Nat) (v0 : List UInt8) : Option (List ApiStep × Int × Int) :=
  (Option.bind (r11_Words.f K v0) fun t1 => (if (!decide (t1.2.2 = 0)) = true then some ([], t1.2.1, t1.2.2) else (if ((0 : Int) ≤ 0 ∧ 0 < (List.length t1.1 : Int)) then (if (!decide (((List.getD t1.1 (Int.toNat 0) default).Kind) = 1)) = false → ((0 : Int) ≤ 0 ∧ 0 < (List.length t1.1 : Int)) then (if ((!decide (((List.getD t1.1 (Int.toNat 0) default).Kind) = 1)) || (!decide (((List.getD t1.1 (Int.toNat 0) default).S) = ([103] : List UInt8)))) = true then (if ((0 : Int) ≤ 0 ∧ 0 < (List.length t1.1 : Int)) then some ([], (List.getD t1.1 (Int.toNat 0) default).At, 120) else none) else (Option.bind (p12_sign.f (⟨t1.1, 1, 0, 0, 0, 0⟩ : St12) ([46] : List UInt8)) fun t2 => (Option.bind (p12_steps.f K t2) fun t3 => (if (decide (t3.1.E = 0)) = true → ((0 : Int) ≤ t3.1.I ∧ t3.1.I < (List.length t3.1.L : Int)) then (if ((decide (t3.1.E = 0)) && (!decide (((List.getD t3.1.L (Int.toNat t3.1.I) default).Kind) = 0))) = true then (Option.bind (p12_fail.f t3.1 120) fun t4 => r12_Parse.j1 K t4 t3.2) else r12_Parse.j1 K t3.1 t3.2) else none)))) else none) else none)))
def check_forms.j8  (v74 : Bool) : Option (List (List UInt8)) :=
  (if v74 = true then some (([([] : List UInt8)] : List (List UInt8))) else some ([]))
def check_forms.j7  (v3 : List UInt8) (v63 : Bool) : Option (List (List UInt8)) :=
  (if v63 = true then some (([([118] : List UInt8)] : List (List UInt8))) else (if (decide (v3 = ([112, 114, 111, 112, 101, 114, 116, 121] : List UInt8))) = true then some (([([110, 118] : List UInt8), ([119, 110, 118] : List UInt8)] : List (List UInt8))) else (if (decide (v3 = ([98, 121] : List UInt8))) = true then some (([([] : List UInt8), ([98] : List UInt8), ([119] : List UInt8), ([98, 119] : List UInt8)] : List (List UInt8))) else (if (decide (v3 = ([100, 101, 100, 117, 112] : List UInt8))) = true then check_forms.j8 (decide (v3 = ([100, 101, 100, 117, 112] : List UInt8))) else (if (decide (v3 = ([115, 105, 109, 112, 108, 101, 80, 97, 116, 104] : List UInt8))) = true then check_forms.j8 (decide (v3 = ([115, 105, 109, 112, 108, 101, 80, 97, 116, 104] : List UInt8))) else (if (decide (v3 = ([111, 117, 116, 86] : List UInt8))) = true then check_forms.j8 (decide (v3 = ([111, 117, 116, 86] : List UInt8))) else (if (decide (v3 = ([105, 110, 86] : List UInt8))) = true then check_forms.j8 (decide (v3 = ([105, 110, 86] : List UInt8))) else (if (decide (v3 = ([98, 111, 116, 104, 86] : List UInt8))) = true then check_forms.j8 (decide (v3 = ([98, 111, 116, 104, 86] : List UInt8))) else (if (decide (v3 = ([105, 100] : List UInt8))) = true then check_forms.j8 (decide (v3 = ([105, 100] : List UInt8))) else (if (decide (v3 = ([108, 97, 98, 101, 108] : List UInt8))) = true then check_forms.j8 (decide (v3 = ([108, 97, 98, 101, 108] : List UInt8))) else (if (decide (v3 = ([105, 100, 101, 110, 116, 105, 116, 121] : List UInt8))) = true then check_forms.j8 (decide (v3 = ([105, 100, 101, 110, 116, 105, 116, 121] : List UInt8))) else (if (decide (v3 = ([112, 97, 116, 104] : List UInt8))) = true then check_forms.j8 (decide (v3 = ([112, 97, 116, 104] : List UInt8))) else (if (decide (v3 = ([102, 111, 108, 100] : List UInt8))) = true then check_forms.j8 (decide (v3 = ([102, 111, 108, 100] : List UInt8))) else (if (decide (v3 = ([117, 110, 102, 111, 108, 100] : List UInt8))) = true then check_forms.j8 (decide (v3 = ([117, 110, 102, 111, 108, 100] : List UInt8))) else (if (decide (v3 = ([99, 111, 117, 110, 116] : List UInt8))) = true then check_forms.j8 (decide (v3 = ([99, 111, 117, 110, 116] : List UInt8))) else (if (decide (v3 = ([115, 117, 109] : List UInt8))) = true then check_forms.j8 (decide (v3 = ([115, 117, 109] : List UInt8))) else (if (decide (v3 = ([109, 105, 110] : List UInt8))) = true then check_forms.j8 (decide (v3 = ([109, 105, 110] : List UInt8))) else (if (decide (v3 = ([109, 97, 120] : List UInt8))) = true then check_forms.j8 (decide (v3 = ([109, 97, 120] : List UInt8))) else (if (decide (v3 = ([109, 101, 97, 110] : List UInt8))) = true then check_forms.j8 (decide (v3 = ([109, 101, 97, 110] : List UInt8))) else (if (decide (v3 = ([103, 114, 111, 117, 112] : List UInt8))) = true then check_forms.j8 (decide (v3 = ([103, 114, 111, 117, 112] : List UInt8))) else (if (decide (v3 = ([103, 114, 111, 117, 112, 67, 111, 117, 110, 116] : List UInt8))) = true then check_forms.j8 (decide (v3 = ([103, 114, 111, 117, 112, 67, 111, 117, 110, 116] : List UInt8))) else (if (decide (v3 = ([111, 114, 100, 101, 114] : List UInt8))) = true then check_forms.j8 (decide (v3 = ([111, 114, 100, 101, 114] : List UInt8))) else (if (decide (v3 = ([98, 97, 114, 114, 105, 101, 114] : List UInt8))) = true then check_forms.j8 (decide (v3 = ([98, 97, 114, 114, 105, 101, 114] : List UInt8))) else (if (decide (v3 = ([101, 109, 105, 116] : List UInt8))) = true then check_forms.j8 (decide (v3 = ([101, 109, 105, 116] : List UInt8))) else check_forms.j8 (decide (v3 = ([100, 114, 111, 112] : List UInt8)))))))))))))))))))))))))))
def check_forms.j6  (v3 : List UInt8) (v54 : Bool) : Option (List (List UInt8)) :=
  (if v54 = true then some (([([107] : List UInt8)] : List (List UInt8))) else (if (decide (v3 = ([114, 97, 110, 103, 101] : List UInt8))) = true then some (([([107, 107] : List UInt8)] : List (List UInt8))) else (if (decide (v3 = ([99, 111, 110, 115, 116, 97, 110, 116] : List UInt8))) = true then check_forms.j7 v3 (decide (v3 = ([99, 111, 110, 115, 116, 97, 110, 116] : List UInt8))) else (if (decide (v3 = ([97, 100, 100] : List UInt8))) = true then check_forms.j7 v3 (decide (v3 = ([97, 100, 100] : List UInt8))) else check_forms.j7 v3 (decide (v3 = ([109, 117, 108] : List UInt8)))))))
def check_forms.j5  (v3 : List UInt8) (v45 : Bool) : Option (List (List UInt8)) :=
  (if v45 = true then some (([([116, 42] : List UInt8)] : List (List UInt8))) else (if (decide (v3 = ([99, 104, 111, 111, 115, 101] : List UInt8))) = true then some (([([116, 116, 116] : List UInt8)] : List (List UInt8))) else (if (decide (v3 = ([108, 105, 109, 105, 116] : List UInt8))) = true then check_forms.j6 v3 (decide (v3 = ([108, 105, 109, 105, 116] : List UInt8))) else (if (decide (v3 = ([115, 107, 105, 112] : List UInt8))) = true then check_forms.j6 v3 (decide (v3 = ([115, 107, 105, 112] : List UInt8))) else (if (decide (v3 = ([116, 97, 105, 108] : List UInt8))) = true then check_forms.j6 v3 (decide (v3 = ([116, 97, 105, 108] : List UInt8))) else check_forms.j6 v3 (decide (v3 = ([116, 105, 109, 101, 115] : List UInt8))))))))
def check_forms.j4  (v3 : List UInt8) (v35 : Bool) : Option (List (List UInt8)) :=
  (if v35 = true then some (([([116] : List UInt8)] : List (List UInt8))) else (if (decide (v3 = ([97, 110, 100] : List UInt8))) = true then check_forms.j5 v3 (decide (v3 = ([97, 110, 100] : List UInt8))) else (if (decide (v3 = ([111, 114] : List UInt8))) = true then check_forms.j5 v3 (decide (v3 = ([111, 114] : List UInt8))) else (if (decide (v3 = ([117, 110, 105, 111, 110] : List UInt8))) = true then check_forms.j5 v3 (decide (v3 = ([117, 110, 105, 111, 110] : List UInt8))) else check_forms.j5 v3 (decide (v3 = ([99, 111, 97, 108, 101, 115, 99, 101] : List UInt8)))))))
def check_forms.j3  (v3 : List UInt8) (v22 : Bool) : Option (List (List UInt8)) :=
  (if v22 = true then some (([([110, 42] : List UInt8)] : List (List UInt8))) else (if (decide (v3 = ([105, 115] : List UInt8))) = true then some (([([113] : List UInt8)] : List (List UInt8))) else (if (decide (v3 = ([119, 104, 101, 114, 101] : List UInt8))) = true then check_forms.j4 v3 (decide (v3 = ([119, 104, 101, 114, 101] : List UInt8))) else (if (decide (v3 = ([110, 111, 116] : List UInt8))) = true then check_forms.j4 v3 (decide (v3 = ([110, 111, 116] : List UInt8))) else (if (decide (v3 = ([111, 112, 116, 105, 111, 110, 97, 108] : List UInt8))) = true then check_forms.j4 v3 (decide (v3 = ([111, 112, 116, 105, 111, 110, 97, 108] : List UInt8))) else (if (decide (v3 = ([114, 101, 112, 101, 97, 116] : List UInt8))) = true then check_forms.j4 v3 (decide (v3 = ([114, 101, 112, 101, 97, 116] : List UInt8))) else (if (decide (v3 = ([108, 111, 99, 97, 108] : List UInt8))) = true then check_forms.j4 v3 (decide (v3 = ([108, 111, 99, 97, 108] : List UInt8))) else (if (decide (v3 = ([117, 110, 116, 105, 108] : List UInt8))) = true then check_forms.j4 v3 (decide (v3 = ([117, 110, 116, 105, 108] : List UInt8))) else (if (decide (v3 = ([116, 111] : List UInt8))) = true then check_forms.j4 v3 (decide (v3 = ([116, 111] : List UInt8))) else check_forms.j4 v3 (decide (v3 = ([102, 114, 111, 109] : List UInt8))))))))))))
def check_forms.j2  (v3 : List UInt8) (v12 : Bool) : Option (List (List UInt8)) :=
  (if v12 = true then some (([([110] : List UInt8)] : List (List UInt8))) else (if (decide (v3 = ([104, 97, 115] : List UInt8))) = true then some (([([110] : List UInt8), ([110, 113] : List UInt8)] : List (List UInt8))) else (if (decide (v3 = ([104, 97, 115, 76, 97, 98, 101, 108] : List UInt8))) = true then check_forms.j3 v3 (decide (v3 = ([104, 97, 115, 76, 97, 98, 101, 108] : List UInt8))) else (if (decide (v3 = ([111, 117, 116] : List UInt8))) = true then check_forms.j3 v3 (decide (v3 = ([111, 117, 116] : List UInt8))) else (if (decide (v3 = ([105, 110] : List UInt8))) = true then check_forms.j3 v3 (decide (v3 = ([105, 110] : List UInt8))) else (if (decide (v3 = ([98, 111, 116, 104] : List UInt8))) = true then check_forms.j3 v3 (decide (v3 = ([98, 111, 116, 104] : List UInt8))) else (if (decide (v3 = ([111, 117, 116, 69] : List UInt8))) = true then check_forms.j3 v3 (decide (v3 = ([111, 117, 116, 69] : List UInt8))) else (if (decide (v3 = ([105, 110, 69] : List UInt8))) = true then check_forms.j3 v3 (decide (v3 = ([105, 110, 69] : List UInt8))) else (if (decide (v3 = ([98, 111, 116, 104, 69] : List UInt8))) = true then check_forms.j3 v3 (decide (v3 = ([98, 111, 116, 104, 69] : List UInt8))) else check_forms.j3 v3 (decide (v3 = ([118, 97, 108, 117, 101, 115] : List UInt8))))))))))))
def check_forms.j1  (v3 : List UInt8) (v4 : Bool) : Option (List (List UInt8)) :=
  (if v4 = true then some (([([105, 42] : List UInt8)] : List (List UInt8))) else (if (decide (v3 = ([105, 110, 106, 101, 99, 116] : List UInt8))) = true then some (([([118, 42] : List UInt8)] : List (List UInt8))) else (if (decide (v3 = ([97, 100, 100, 86] : List UInt8))) = true then check_forms.j2 v3 (decide (v3 = ([97, 100, 100, 86] : List UInt8))) else (if (decide (v3 = ([97, 100, 100, 69] : List UInt8))) = true then check_forms.j2 v3 (decide (v3 = ([97, 100, 100, 69] : List UInt8))) else (if (decide (v3 = ([104, 97, 115, 78, 111, 116] : List UInt8))) = true then check_forms.j2 v3 (decide (v3 = ([104, 97, 115, 78, 111, 116] : List UInt8))) else (if (decide (v3 = ([97, 115] : List UInt8))) = true then check_forms.j2 v3 (decide (v3 = ([97, 115] : List UInt8))) else check_forms.j2 v3 (decide (v3 = ([115, 101, 108, 101, 99, 116] : List UInt8)))))))))
def check_forms.f  (v0 : List UInt8) : Option (List (List UInt8)) :=
  (if (decide (v0 = ([86] : List UInt8))) = true then check_forms.j1 v0 (decide (v0 = ([86] : List UInt8))) else (if (decide (v0 = ([69] : List UInt8))) = true then check_forms.j1 v0 (decide (v0 = ([69] : List UInt8))) else check_forms.j1 v0 (decide (v0 = ([104, 97, 115, 73, 100] : List UInt8)))))
def graph_Name.l1 (K : Nat) : Nat → List UInt8 → List Int → Int → Int → Option Bool
  | 0, _, _, _, _ => none
  | kl1 + 1, v0, v7, v8, v9 => (if (decide (v9 < v8)) = true then (if ((0 : Int) ≤ v9 ∧ v9 < (List.length v7 : Int)) then (if ((!(((decide ((List.getD v7 (Int.toNat v9) default) = 95)) || ((decide (97 ≤ (List.getD v7 (Int.toNat v9) default))) && (decide ((List.getD v7 (Int.toNat v9) default) ≤ 122)))) || ((decide (65 ≤ (List.getD v7 (Int.toNat v9) default))) && (decide ((List.getD v7 (Int.toNat v9) default) ≤ 90))))) && (((decide (v9 = 0)) || (decide ((List.getD v7 (Int.toNat v9) default) < 48))) || (decide (57 < (List.getD v7 (Int.toNat v9) default))))) = true then some (false) else graph_Name.l1 K kl1 v0 v7 v8 (IntKind.wrap .i64 (v9 + 1))) else none) else some (((!decide (v0 = ([] : List UInt8))) && (decide ((List.length v0 : Int) ≤ 16)))))
def graph_Name.f (K : Nat) (v0 : List UInt8) : Option Bool :=
  graph_Name.l1 K K v0 (FW.bytesI v0) (List.length (FW.bytesI v0) : Int) 0
def check_is.f (K : Nat) (v0 : ApiArg) (v1 : Int) (v2 : List UInt8) : Option Bool :=
  (Option.bind (if ((decide (v0.Kind = 1)) && (decide (v0.V.Kind = 4))) = true then graph_Name.f K v0.V.S else some default) fun t1 => (if (decide (v1 = 118)) = true then some ((decide (v0.Kind = 1))) else (if (decide (v1 = 110)) = true then some ((((decide (v0.Kind = 1)) && (decide (v0.V.Kind = 4))) && t1)) else (if (decide (v1 = 105)) = true then some ((((decide (v0.Kind = 1)) && (decide (v0.V.Kind = 2))) && (decide (1 ≤ v0.V.N)))) else (if (decide (v1 = 107)) = true then some ((((decide (v0.Kind = 1)) && (decide (v0.V.Kind = 2))) && (decide (0 ≤ v0.V.N)))) else (if (decide (v1 = 113)) = true then some (((decide (v0.Kind = 1)) || (decide (v0.Kind = 2)))) else (if (decide (v1 = 116)) = true then some ((decide (v0.Kind = 3))) else (if (decide (v1 = 98)) = true then some (((((decide (v0.Kind = 1)) && (decide (v0.V.Kind = 4))) && t1) || (decide (v0.Kind = 3)))) else (if (!decide (v0.Kind = 4)) = true then some (false) else (if (decide (v2 = ([98, 121] : List UInt8))) = true then some (((decide (v0.V.S = ([97, 115, 99] : List UInt8))) || (decide (v0.V.S = ([100, 101, 115, 99] : List UInt8))))) else some (((decide (v0.V.S = ([115, 105, 110, 103, 108, 101] : List UInt8))) || (decide (v0.V.S = ([108, 105, 115, 116] : List UInt8)))))))))))))))
def check_fits_1.f (K : Nat) (v0 : ApiArg) (v1 : OVarcstr_9) (v2 : OVarApiStep) : Option Bool :=
  (if ((0 : Int) ≤ 0 ∧ 0 < (List.length v1.v : Int)) then (Option.bind (check_is.f K v0 (FW.bt v1.v 0) v2.Name) fun t1 => some ((!t1))) else none)
def iF_fits.l1 (K : Nat) (v1c0 : OVarcstr_9) (v1c1 : OVarApiStep) : Nat → List ApiArg → Int → Int → Option Int
  | 0, _, _, _ => none
  | kl1 + 1, v0, v7, v8 => (if (decide (v8 < v7)) = true then (if ((0 : Int) ≤ v8 ∧ v8 < (List.length v0 : Int)) then (Option.bind (check_fits_1.f K (List.getD v0 (Int.toNat v8) default) v1c0 v1c1) fun t1 => (if t1 = true then some (v8) else iF_fits.l1 K v1c0 v1c1 kl1 v0 v7 (IntKind.wrap .i64 (v8 + 1)))) else none) else some ((-1)))
def iF_fits.f (K : Nat) (v0 : List ApiArg) (v1c0 : OVarcstr_9) (v1c1 : OVarApiStep) : Option Int :=
  iF_fits.l1 K v1c0 v1c1 K v0 (List.length v0 : Int) 0
def cF_fits.f (K : Nat) (v0 : List ApiArg) (v1c0 : OVarcstr_9) (v1c1 : OVarApiStep) : Option Bool :=
  (Option.bind (iF_fits.f K v0 v1c0 v1c1) fun t1 => some ((decide (0 ≤ t1))))
def check_fits.l1 (K : Nat) : Nat → List UInt8 → ApiStep → List ApiArg → Int → Int → Option Bool
  | 0, _, _, _, _, _ => none
  | kl1 + 1, y2, y1, v27, v28, v29 => (if (decide (v29 < v28)) = true then (if ((0 : Int) ≤ v29 ∧ v29 < (List.length v27 : Int)) then (if ((0 : Int) ≤ v29 ∧ v29 < (List.length y2 : Int)) then (Option.bind (check_is.f K (List.getD v27 (Int.toNat v29) default) (FW.bt y2 v29) y1.Name) fun t2 => (if (!t2) = true then some (false) else check_fits.l1 K kl1 y2 y1 v27 v28 (IntKind.wrap .i64 (v29 + 1)))) else none) else none) else some (true))
def check_fits.f (K : Nat) (v0 : ApiStep) (v1 : List UInt8) : Option Bool :=
  (if (decide ((List.length v1 : Int) = 2)) = true → ((0 : Int) ≤ 1 ∧ 1 < (List.length v1 : Int)) then (if ((decide ((List.length v1 : Int) = 2)) && (decide ((FW.bt v1 1) = 42))) = true then (Option.bind (cF_fits.f K v0.Args (⟨v1⟩ : OVarcstr_9) v0) fun t1 => some ((!t1))) else (if (!decide ((List.length v1 : Int) = (List.length v0.Args : Int))) = true then some (false) else check_fits.l1 K K v1 v0 v0.Args (List.length v0.Args : Int) 0)) else none)
def check_steps_1.f (K : Nat) (v0 : List UInt8) (v1 : OVarApiStep) : Option Bool :=
  (Option.bind (check_fits.f K v1 v0) fun t1 => some (t1))
def iF_steps.l1 (K : Nat) (v1c0 : OVarApiStep) : Nat → List (List UInt8) → Int → Int → Option Int
  | 0, _, _, _ => none
  | kl1 + 1, v0, v7, v8 => (if (decide (v8 < v7)) = true then (if ((0 : Int) ≤ v8 ∧ v8 < (List.length v0 : Int)) then (Option.bind (check_steps_1.f K (List.getD v0 (Int.toNat v8) default) v1c0) fun t1 => (if t1 = true then some (v8) else iF_steps.l1 K v1c0 kl1 v0 v7 (IntKind.wrap .i64 (v8 + 1)))) else none) else some ((-1)))
def iF_steps.f (K : Nat) (v0 : List (List UInt8)) (v1c0 : OVarApiStep) : Option Int :=
  iF_steps.l1 K v1c0 K v0 (List.length v0 : Int) 0
def cF_steps.f (K : Nat) (v0 : List (List UInt8)) (v1c0 : OVarApiStep) : Option Bool :=
  (Option.bind (iF_steps.f K v0 v1c0) fun t1 => some ((decide (0 ≤ t1))))
def check_after.j2  (v12 : Bool) : Option (List (List UInt8)) :=
  (if v12 = true then some (([([97, 100, 100, 69] : List UInt8), ([116, 111] : List UInt8), ([102, 114, 111, 109] : List UInt8)] : List (List UInt8))) else some ([]))
def check_after.j1  (v3 : List UInt8) (v7 : Bool) : Option (List (List UInt8)) :=
  (if v7 = true then some (([([114, 101, 112, 101, 97, 116] : List UInt8), ([116, 105, 109, 101, 115] : List UInt8), ([117, 110, 116, 105, 108] : List UInt8), ([101, 109, 105, 116] : List UInt8)] : List (List UInt8))) else (if (decide (v3 = ([116, 111] : List UInt8))) = true then check_after.j2 (decide (v3 = ([116, 111] : List UInt8))) else check_after.j2 (decide (v3 = ([102, 114, 111, 109] : List UInt8)))))
def check_after.f  (v0 : List UInt8) : Option (List (List UInt8)) :=
  (if (decide (v0 = ([98, 121] : List UInt8))) = true then some (([([111, 114, 100, 101, 114] : List UInt8), ([103, 114, 111, 117, 112] : List UInt8), ([103, 114, 111, 117, 112, 67, 111, 117, 110, 116] : List UInt8), ([100, 101, 100, 117, 112] : List UInt8), ([98, 121] : List UInt8)] : List (List UInt8))) else (if (decide (v0 = ([116, 105, 109, 101, 115] : List UInt8))) = true then check_after.j1 v0 (decide (v0 = ([116, 105, 109, 101, 115] : List UInt8))) else (if (decide (v0 = ([117, 110, 116, 105, 108] : List UInt8))) = true then check_after.j1 v0 (decide (v0 = ([117, 110, 116, 105, 108] : List UInt8))) else check_after.j1 v0 (decide (v0 = ([101, 109, 105, 116] : List UInt8))))))
def slices_Index_string_string.l1 (K : Nat) : Nat → List (List UInt8) → List UInt8 → Int → Int → Option Int
  | 0, _, _, _, _ => none
  | kl1 + 1, v0, v1, v7, v8 => (if (decide (v8 < v7)) = true then (if ((0 : Int) ≤ v8 ∧ v8 < (List.length v0 : Int)) then (if (decide (v1 = (List.getD v0 (Int.toNat v8) default))) = true then some (v8) else slices_Index_string_string.l1 K kl1 v0 v1 v7 (IntKind.wrap .i64 (v8 + 1))) else none) else some ((-1)))
def slices_Index_string_string.f (K : Nat) (v0 : List (List UInt8)) (v1 : List UInt8) : Option Int :=
  slices_Index_string_string.l1 K K v0 v1 (List.length v0 : Int) 0
def slices_Contains_string_string.f (K : Nat) (v0 : List (List UInt8)) (v1 : List UInt8) : Option Bool :=
  (Option.bind (slices_Index_string_string.f K v0 v1) fun t1 => some ((decide (0 ≤ t1))))
def check_run.j1 (s_l1 : List ApiStep → Int → List UInt8 → Int → Option (Int × List UInt8)) (K : Nat) (v0 : List ApiStep) (v1 : Int) (v2 : List UInt8) (v8 : Int) : Option (Int × List UInt8) :=
  (if ((0 : Int) ≤ v1 ∧ v1 < (List.length v0 : Int)) then (Option.bind (check_after.f ((List.getD v0 (Int.toNat v1) default).Name)) fun t1 => (if (List.isEmpty t1) = true then (if ((0 : Int) ≤ v1 ∧ v1 < (List.length v0 : Int)) then some (v8, (List.getD v0 (Int.toNat v1) default).Name) else none) else s_l1 v0 (IntKind.wrap .i64 (v1 - 1)) v2 v8)) else none)
def check_run.l1 (K : Nat) : Nat → List ApiStep → Int → List UInt8 → Int → Option (Int × List UInt8)
  | 0, _, _, _, _ => none
  | kl1 + 1, v0, v1, v2, v8 => (if (decide (0 ≤ v1)) = true then (if ((0 : Int) ≤ v1 ∧ v1 < (List.length v0 : Int)) then (if (decide (((List.getD v0 (Int.toNat v1) default).Name) = v2)) = true then check_run.j1 (check_run.l1 K kl1) K v0 v1 v2 (IntKind.wrap .i64 (v8 + 1)) else check_run.j1 (check_run.l1 K kl1) K v0 v1 v2 v8) else none) else some (v8, ([] : List UInt8)))
def check_run.f (K : Nat) (v0 : List ApiStep) (v1 : Int) (v2 : List UInt8) : Option (Int × List UInt8) :=
  check_run.l1 K K v0 v1 v2 0
def check_most.f  (v0 : List UInt8) (v1 : List UInt8) : Option Int :=
  (if ((decide (v0 = ([98, 121] : List UInt8))) && (decide (v1 = ([111, 114, 100, 101, 114] : List UInt8)))) = true then some (12) else (if ((decide (v0 = ([98, 121] : List UInt8))) && (decide (v1 = ([103, 114, 111, 117, 112] : List UInt8)))) = true then some (2) else some (1)))
def check_place.j1 (K : Nat) (y1 : ApiStep) (v0 : List ApiStep) (v1 : Int) : Option Int :=
  (if (decide ((IntKind.wrap .i64 (v1 + 1)) = (List.length v0 : Int))) = false → ((0 : Int) ≤ (IntKind.wrap .i64 (v1 + 1)) ∧ (IntKind.wrap .i64 (v1 + 1)) < (List.length v0 : Int)) then (Option.bind (if (decide ((IntKind.wrap .i64 (v1 + 1)) = (List.length v0 : Int))) = false then check_after.f ((List.getD v0 (Int.toNat (IntKind.wrap .i64 (v1 + 1))) default).Name) else some default) fun t1 => (if ((decide ((IntKind.wrap .i64 (v1 + 1)) = (List.length v0 : Int))) || (List.isEmpty t1)) = false → (decide (y1.Name = ([97, 100, 100, 69] : List UInt8))) = true → ((0 : Int) ≤ (IntKind.wrap .i64 (v1 + 1)) ∧ (IntKind.wrap .i64 (v1 + 1)) < (List.length v0 : Int)) then (if (!decide (((List.getD v0 (Int.toNat (IntKind.wrap .i64 (v1 + 1))) default).Name) = ([116, 111] : List UInt8))) = true → ((decide ((IntKind.wrap .i64 (v1 + 1)) = (List.length v0 : Int))) || (List.isEmpty t1)) = false → (decide (y1.Name = ([97, 100, 100, 69] : List UInt8))) = true → ((0 : Int) ≤ (IntKind.wrap .i64 (v1 + 1)) ∧ (IntKind.wrap .i64 (v1 + 1)) < (List.length v0 : Int)) then (if (((decide (y1.Name = ([97, 100, 100, 69] : List UInt8))) && (((decide ((IntKind.wrap .i64 (v1 + 1)) = (List.length v0 : Int))) || (List.isEmpty t1)) || ((!decide (((List.getD v0 (Int.toNat (IntKind.wrap .i64 (v1 + 1))) default).Name) = ([116, 111] : List UInt8))) && (!decide (((List.getD v0 (Int.toNat (IntKind.wrap .i64 (v1 + 1))) default).Name) = ([102, 114, 111, 109] : List UInt8)))))) || ((decide (y1.Name = ([114, 101, 112, 101, 97, 116] : List UInt8))) && ((decide ((IntKind.wrap .i64 (v1 + 1)) = (List.length v0 : Int))) || (List.isEmpty t1)))) = true then some (142) else some (0)) else none) else none)) else none)
def check_place.f (K : Nat) (v0 : List ApiStep) (v1 : Int) (v2 : Bool) : Option Int :=
  (if ((0 : Int) ≤ v1 ∧ v1 < (List.length v0 : Int)) then (if ((v2 && (decide (v1 = 0))) && (!((((decide (((List.getD v0 (Int.toNat v1) default).Name) = ([86] : List UInt8))) || (decide (((List.getD v0 (Int.toNat v1) default).Name) = ([69] : List UInt8)))) || (decide (((List.getD v0 (Int.toNat v1) default).Name) = ([97, 100, 100, 86] : List UInt8)))) || (decide (((List.getD v0 (Int.toNat v1) default).Name) = ([105, 110, 106, 101, 99, 116] : List UInt8)))))) = true then some (142) else (Option.bind (check_after.f ((List.getD v0 (Int.toNat v1) default).Name)) fun t2 => (if (!(List.isEmpty t2)) = true then (if (decide (v1 = 0)) = false → ((0 : Int) ≤ (IntKind.wrap .i64 (v1 - 1)) ∧ (IntKind.wrap .i64 (v1 - 1)) < (List.length v0 : Int)) then (Option.bind (if (decide (v1 = 0)) = false then slices_Contains_string_string.f K t2 ((List.getD v0 (Int.toNat (IntKind.wrap .i64 (v1 - 1))) default).Name) else some default) fun t3 => (if ((decide (v1 = 0)) || (!t3)) = true then some (142) else (Option.bind (check_run.f K v0 v1 ((List.getD v0 (Int.toNat v1) default).Name)) fun t4 => (Option.bind (check_most.f ((List.getD v0 (Int.toNat v1) default).Name) t4.2) fun t5 => (if (decide (t5 < t4.1)) = true then some (142) else (if (((decide (((List.getD v0 (Int.toNat v1) default).Name) = ([98, 121] : List UInt8))) && (!decide (t4.2 = ([111, 114, 100, 101, 114] : List UInt8)))) && (decide (0 < (List.length ((List.getD v0 (Int.toNat v1) default).Args) : Int)))) = true → ((0 : Int) ≤ (IntKind.wrap .i64 ((List.length ((List.getD v0 (Int.toNat v1) default).Args) : Int) - 1)) ∧ (IntKind.wrap .i64 ((List.length ((List.getD v0 (Int.toNat v1) default).Args) : Int) - 1)) < (List.length ((List.getD v0 (Int.toNat v1) default).Args) : Int)) then (if ((((decide (((List.getD v0 (Int.toNat v1) default).Name) = ([98, 121] : List UInt8))) && (!decide (t4.2 = ([111, 114, 100, 101, 114] : List UInt8)))) && (decide (0 < (List.length ((List.getD v0 (Int.toNat v1) default).Args) : Int)))) && (decide (((List.getD ((List.getD v0 (Int.toNat v1) default).Args) (Int.toNat (IntKind.wrap .i64 ((List.length ((List.getD v0 (Int.toNat v1) default).Args) : Int) - 1))) default).Kind) = 4))) = true then some (141) else check_place.j1 K (List.getD v0 (Int.toNat v1) default) v0 v1) else none)))))) else none) else check_place.j1 K (List.getD v0 (Int.toNat v1) default) v0 v1))) else none)
def check_steps.j1 (zcs : List ApiStep → Bool → Option Int) (s_l1 : List ApiStep → Bool → List ApiStep → Int → Int → Option Int) (s_l2 : List ApiStep → Bool → List ApiStep → Int → Int → List ApiArg → Int → Int → Option Int) (K : Nat) (v0 : List ApiStep) (v1 : Bool) (v12 : List ApiStep) (v13 : Int) (v14 : Int) (v65 : List ApiArg) (v66 : Int) (v67 : Int) : Option Int :=
  s_l2 v0 v1 v12 v13 v14 v65 v66 (IntKind.wrap .i64 (v67 + 1))
def check_steps.l2 (zcs : List ApiStep → Bool → Option Int) (s_l1 : List ApiStep → Bool → List ApiStep → Int → Int → Option Int) (K : Nat) : Nat → List ApiStep → Bool → List ApiStep → Int → Int → List ApiArg → Int → Int → Option Int
  | 0, _, _, _, _, _, _, _, _ => none
  | kl2 + 1, v0, v1, v12, v13, v14, v65, v66, v67 => (if (decide (v67 < v66)) = true then (if ((0 : Int) ≤ v67 ∧ v67 < (List.length v65 : Int)) then (if (!decide (((List.getD v65 (Int.toNat v67) default).Kind) = 3)) = true then check_steps.j1 zcs s_l1 (check_steps.l2 zcs s_l1 K kl2) K v0 v1 v12 v13 v14 v65 v66 v67 else (Option.bind (zcs ((List.getD v65 (Int.toNat v67) default).T) false) fun t4 => (if (!decide (t4 = 0)) = true then some (t4) else check_steps.j1 zcs s_l1 (check_steps.l2 zcs s_l1 K kl2) K v0 v1 v12 v13 v14 v65 v66 v67))) else none) else s_l1 v0 v1 v12 v13 (IntKind.wrap .i64 (v14 + 1)))
def check_steps.l1 (zcs : List ApiStep → Bool → Option Int) (K : Nat) : Nat → List ApiStep → Bool → List ApiStep → Int → Int → Option Int
  | 0, _, _, _, _, _ => none
  | kl1 + 1, v0, v1, v12, v13, v14 => (if (decide (v14 < v13)) = true then (if ((0 : Int) ≤ v14 ∧ v14 < (List.length v12 : Int)) then (Option.bind (check_forms.f ((List.getD v12 (Int.toNat v14) default).Name)) fun t1 => (if (List.isEmpty t1) = true then some (140) else (Option.bind (cF_steps.f K t1 (List.getD v12 (Int.toNat v14) default)) fun t2 => (if (!t2) = true then some (141) else (if ((((((decide (((List.getD v12 (Int.toNat v14) default).Name) = ([105, 110, 106, 101, 99, 116] : List UInt8))) || (decide (((List.getD v12 (Int.toNat v14) default).Name) = ([117, 110, 105, 111, 110] : List UInt8)))) || (decide (((List.getD v12 (Int.toNat v14) default).Name) = ([99, 111, 97, 108, 101, 115, 99, 101] : List UInt8)))) || (decide (((List.getD v12 (Int.toNat v14) default).Name) = ([97, 110, 100] : List UInt8)))) || (decide (((List.getD v12 (Int.toNat v14) default).Name) = ([111, 114] : List UInt8)))) && (decide ((List.length ((List.getD v12 (Int.toNat v14) default).Args) : Int) = 0))) = true then some (141) else (Option.bind (check_place.f K v0 v14 v1) fun t3 => (if (!decide (t3 = 0)) = true then some (t3) else check_steps.l2 zcs (check_steps.l1 zcs K kl1) K K v0 v1 v12 v13 v14 ((List.getD v12 (Int.toNat v14) default).Args) (List.length ((List.getD v12 (Int.toNat v14) default).Args) : Int) 0))))))) else none) else some (0))
def check_steps.b (zcs : List ApiStep → Bool → Option Int) (K : Nat) (v0 : List ApiStep) (v1 : Bool) : Option Int :=
  check_steps.l1 zcs K K v0 v1 v0 (List.length v0 : Int) 0
def check_steps.f : Nat → List ApiStep → Bool → Option Int
  | 0, _, _ => none
  | K + 1, v0, v1 => check_steps.b (check_steps.f K) K v0 v1
def check_Check.f (K : Nat) (v0 : List ApiStep) : Option Int :=
  (if (decide ((List.length v0 : Int) = 0)) = true then some (142) else (Option.bind (check_steps.f K v0 true) fun t1 => some (t1)))
def code_modifies.j1  (v4 : Bool) : Option Bool :=
  (if v4 = true then some (true) else some (false))
def code_modifies.f  (v0 : List UInt8) : Option Bool :=
  (if (decide (v0 = ([98, 121] : List UInt8))) = true then code_modifies.j1 (decide (v0 = ([98, 121] : List UInt8))) else (if (decide (v0 = ([116, 105, 109, 101, 115] : List UInt8))) = true then code_modifies.j1 (decide (v0 = ([116, 105, 109, 101, 115] : List UInt8))) else (if (decide (v0 = ([117, 110, 116, 105, 108] : List UInt8))) = true then code_modifies.j1 (decide (v0 = ([117, 110, 116, 105, 108] : List UInt8))) else (if (decide (v0 = ([101, 109, 105, 116] : List UInt8))) = true then code_modifies.j1 (decide (v0 = ([101, 109, 105, 116] : List UInt8))) else (if (decide (v0 = ([116, 111] : List UInt8))) = true then code_modifies.j1 (decide (v0 = ([116, 111] : List UInt8))) else code_modifies.j1 (decide (v0 = ([102, 114, 111, 109] : List UInt8))))))))
def code_simple.f  (v0 : List UInt8) : Option Int :=
  (if (decide (v0 = ([86] : List UInt8))) = true then some (1) else (if (decide (v0 = ([69] : List UInt8))) = true then some (2) else (if (decide (v0 = ([105, 110, 106, 101, 99, 116] : List UInt8))) = true then some (3) else (if (decide (v0 = ([97, 100, 100, 86] : List UInt8))) = true then some (4) else (if (decide (v0 = ([104, 97, 115, 78, 111, 116] : List UInt8))) = true then some (8) else (if (decide (v0 = ([104, 97, 115, 76, 97, 98, 101, 108] : List UInt8))) = true then some (9) else (if (decide (v0 = ([104, 97, 115, 73, 100] : List UInt8))) = true then some (10) else (if (decide (v0 = ([116, 97, 105, 108] : List UInt8))) = true then some (18) else (if (decide (v0 = ([115, 105, 109, 112, 108, 101, 80, 97, 116, 104] : List UInt8))) = true then some (19) else (if (decide (v0 = ([118, 97, 108, 117, 101, 115] : List UInt8))) = true then some (22) else (if (decide (v0 = ([105, 100] : List UInt8))) = true then some (23) else (if (decide (v0 = ([108, 97, 98, 101, 108] : List UInt8))) = true then some (24) else (if (decide (v0 = ([99, 111, 110, 115, 116, 97, 110, 116] : List UInt8))) = true then some (25) else (if (decide (v0 = ([105, 100, 101, 110, 116, 105, 116, 121] : List UInt8))) = true then some (26) else (if (decide (v0 = ([112, 97, 116, 104] : List UInt8))) = true then some (27) else (if (decide (v0 = ([115, 101, 108, 101, 99, 116] : List UInt8))) = true then some (28) else (if (decide (v0 = ([97, 100, 100] : List UInt8))) = true then some (29) else (if (decide (v0 = ([109, 117, 108] : List UInt8))) = true then some (30) else (if (decide (v0 = ([102, 111, 108, 100] : List UInt8))) = true then some (31) else (if (decide (v0 = ([117, 110, 102, 111, 108, 100] : List UInt8))) = true then some (32) else (if (decide (v0 = ([98, 97, 114, 114, 105, 101, 114] : List UInt8))) = true then some (37) else (if (decide (v0 = ([97, 115] : List UInt8))) = true then some (44) else (if (decide (v0 = ([100, 114, 111, 112] : List UInt8))) = true then some (46) else some (0))))))))))))))))))))))))
def code_numbers.l1 (K : Nat) : Nat → List Int → List ApiArg → Int → Int → Option (List Int)
  | 0, _, _, _, _ => none
  | kl1 + 1, l1, v6, v7, v8 => (if (decide (v8 < v7)) = true then (if ((0 : Int) ≤ v8 ∧ v8 < (List.length v6 : Int)) then (if ((List.length l1 + List.length ([((List.getD v6 (Int.toNat v8) default).V).N] : List Int)) * 8 ≤ 140737488355328 ∧ List.length l1 + List.length ([((List.getD v6 (Int.toNat v8) default).V).N] : List Int) ≤ 140737488355328) then code_numbers.l1 K kl1 (l1 ++ ([((List.getD v6 (Int.toNat v8) default).V).N] : List Int)) v6 v7 (IntKind.wrap .i64 (v8 + 1)) else none) else none) else some (l1))
def code_numbers.f (K : Nat) (v0 : List ApiArg) : Option (List Int) :=
  code_numbers.l1 K K ([] : List Int) v0 (List.length v0 : Int) 0
def val_Copy.j1 (s_val_Copy : ApiValue → Option ApiValue) (K : Nat) (y1 : ApiValue) : Option ApiValue :=
  some (y1)
def val_Copy.l1 (s_val_Copy : ApiValue → Option ApiValue) (K : Nat) : Nat → List ApiValue → ApiValue → List ApiValue → Int → Int → Option ApiValue
  | 0, _, _, _, _, _ => none
  | kl1 + 1, l3, y1, v14, v15, v16 => (if (decide (v16 < v15)) = true then (if ((0 : Int) ≤ v16 ∧ v16 < (List.length v14 : Int)) then (Option.bind (s_val_Copy (List.getD v14 (Int.toNat v16) default)) fun t1 => (if ((0 : Int) ≤ v16 ∧ v16 < (List.length l3 : Int)) then val_Copy.l1 s_val_Copy K kl1 (List.set l3 (Int.toNat v16) t1) y1 v14 v15 (IntKind.wrap .i64 (v16 + 1)) else none)) else none) else val_Copy.j1 s_val_Copy K (⟨y1.Kind, y1.B, y1.N, y1.F, y1.S, l3⟩ : ApiValue))
def val_Copy.b (s_val_Copy : ApiValue → Option ApiValue) (K : Nat) (v0 : ApiValue) : Option ApiValue :=
  (if ((0 : Int) ≤ (List.length v0.L : Int) ∧ ((List.length v0.L : Int) : Int) ≤ 1000000000000) then val_Copy.l1 s_val_Copy K K (List.replicate (Int.toNat (List.length v0.L : Int)) (default : ApiValue)) v0 v0.L (List.length v0.L : Int) 0 else none)
def val_Copy.f : Nat → ApiValue → Option ApiValue
  | 0, _ => none
  | K + 1, v0 => val_Copy.b (val_Copy.f K) K v0
def code_values.l1 (K : Nat) : Nat → List ApiValue → List ApiArg → Int → Int → Option (List ApiValue)
  | 0, _, _, _, _ => none
  | kl1 + 1, l1, v6, v7, v8 => (if (decide (v8 < v7)) = true then (if ((0 : Int) ≤ v8 ∧ v8 < (List.length v6 : Int)) then (Option.bind (val_Copy.f K ((List.getD v6 (Int.toNat v8) default).V)) fun t1 => (if ((List.length l1 + List.length ([t1] : List ApiValue)) * 72 ≤ 140737488355328 ∧ List.length l1 + List.length ([t1] : List ApiValue) ≤ 140737488355328) then code_values.l1 K kl1 (l1 ++ ([t1] : List ApiValue)) v6 v7 (IntKind.wrap .i64 (v8 + 1)) else none)) else none) else some (l1))
def code_values.f (K : Nat) (v0 : List ApiArg) : Option (List ApiValue) :=
  code_values.l1 K K ([] : List ApiValue) v0 (List.length v0 : Int) 0
def code_names.l1 (K : Nat) : Nat → List (List UInt8) → List ApiArg → Int → Int → Option (List (List UInt8))
  | 0, _, _, _, _ => none
  | kl1 + 1, l1, v6, v7, v8 => (if (decide (v8 < v7)) = true then (if ((0 : Int) ≤ v8 ∧ v8 < (List.length v6 : Int)) then (if ((List.length l1 + List.length ([((List.getD v6 (Int.toNat v8) default).V).S] : List (List UInt8))) * 16 ≤ 140737488355328 ∧ List.length l1 + List.length ([((List.getD v6 (Int.toNat v8) default).V).S] : List (List UInt8)) ≤ 140737488355328) then code_names.l1 K kl1 (l1 ++ ([((List.getD v6 (Int.toNat v8) default).V).S] : List (List UInt8))) v6 v7 (IntKind.wrap .i64 (v8 + 1)) else none) else none) else some (l1))
def code_names.f (K : Nat) (v0 : List ApiArg) : Option (List (List UInt8)) :=
  code_names.l1 K K ([] : List (List UInt8)) v0 (List.length v0 : Int) 0
def code_nested.f  (v0 : List UInt8) : Option Int :=
  (if (decide (v0 = ([119, 104, 101, 114, 101] : List UInt8))) = true then some (12) else (if (decide (v0 = ([110, 111, 116] : List UInt8))) = true then some (13) else (if (decide (v0 = ([97, 110, 100] : List UInt8))) = true then some (14) else (if (decide (v0 = ([111, 114] : List UInt8))) = true then some (15) else (if (decide (v0 = ([117, 110, 105, 111, 110] : List UInt8))) = true then some (38) else (if (decide (v0 = ([99, 111, 97, 108, 101, 115, 99, 101] : List UInt8))) = true then some (39) else (if (decide (v0 = ([111, 112, 116, 105, 111, 110, 97, 108] : List UInt8))) = true then some (40) else (if (decide (v0 = ([99, 104, 111, 111, 115, 101] : List UInt8))) = true then some (41) else (if (decide (v0 = ([108, 111, 99, 97, 108] : List UInt8))) = true then some (43) else some (0))))))))))
def code_walk.f  (v0 : List UInt8) : Option (List Int × Bool) :=
  (if (decide (v0 = ([111, 117, 116] : List UInt8))) = true then some (([1, 0] : List Int), true) else (if (decide (v0 = ([105, 110] : List UInt8))) = true then some (([2, 0] : List Int), true) else (if (decide (v0 = ([98, 111, 116, 104] : List UInt8))) = true then some (([3, 0] : List Int), true) else (if (decide (v0 = ([111, 117, 116, 69] : List UInt8))) = true then some (([1, 1] : List Int), true) else (if (decide (v0 = ([105, 110, 69] : List UInt8))) = true then some (([2, 1] : List Int), true) else (if (decide (v0 = ([98, 111, 116, 104, 69] : List UInt8))) = true then some (([3, 1] : List Int), true) else some ([], false)))))))
def code_reduce.f  (v0 : List UInt8) : Option Int :=
  (if (decide (v0 = ([99, 111, 117, 110, 116] : List UInt8))) = true then some (1) else (if (decide (v0 = ([115, 117, 109] : List UInt8))) = true then some (2) else (if (decide (v0 = ([109, 105, 110] : List UInt8))) = true then some (3) else (if (decide (v0 = ([109, 97, 120] : List UInt8))) = true then some (4) else (if (decide (v0 = ([109, 101, 97, 110] : List UInt8))) = true then some (5) else some (0))))))
def code_pred.f (K : Nat) (v0 : ApiArg) : Option ApiPred :=
  (if (decide (v0.Kind = 1)) = true then (Option.bind (val_Copy.f K v0.V) fun t1 => some ((⟨([101, 113] : List UInt8), ([t1] : List ApiValue), []⟩ : ApiPred))) else some (v0.P))
def cm_body.l2 (zB : Y1) (zI : Y2) (zK : Y3) (zO : Y2) (zY : Y5) (zb : Y6) (zR : Y7) (zT : Y2) (zE : Y2) (s_l1 : List ApiIns → List (List ApiIns) → List ApiStep → Int → Int → Option (Int × OCM)) (K : Nat) (l2 : List (List ApiIns)) (l4 : List ApiIns) : Nat → List ApiStep → Int → Int → Int → Option (Int × OCM)
  | 0, _, _, _, _ => none
  | kl2 + 1, v1, v5, v7, v8 => (if (decide ((IntKind.wrap .i64 (v7 + v8)) < (List.length v1 : Int))) = true → ((0 : Int) ≤ (IntKind.wrap .i64 (v7 + v8)) ∧ (IntKind.wrap .i64 (v7 + v8)) < (List.length v1 : Int)) then (Option.bind (if (decide ((IntKind.wrap .i64 (v7 + v8)) < (List.length v1 : Int))) = true then code_modifies.f ((List.getD v1 (Int.toNat (IntKind.wrap .i64 (v7 + v8))) default).Name) else some default) fun t1 => (if ((decide ((IntKind.wrap .i64 (v7 + v8)) < (List.length v1 : Int))) && t1) = true then cm_body.l2 zB zI zK zO zY zb zR zT zE s_l1 K l2 l4 kl2 v1 v5 v7 (IntKind.wrap .i64 (v8 + 1)) else (if ((0 : Int) ≤ v7 ∧ v7 < (List.length v1 : Int)) then (if ((0 : Int) ≤ (IntKind.wrap .i64 (v7 + 1)) ∧ ((IntKind.wrap .i64 (v7 + 1)) : Int) ≤ (IntKind.wrap .i64 (v7 + v8)) ∧ (IntKind.wrap .i64 (v7 + v8)) ≤ (List.length v1 : Int)) then (Option.bind (zI (⟨l2⟩ : OCM) (List.getD v1 (Int.toNat v7) default) (List.take (Int.toNat (IntKind.wrap .i64 (v7 + v8)) - Int.toNat (IntKind.wrap .i64 (v7 + 1))) (List.drop (Int.toNat (IntKind.wrap .i64 (v7 + 1))) v1))) fun t2 => (if ((List.length l4 + List.length ([t2.1] : List ApiIns)) * 176 ≤ 140737488355328 ∧ List.length l4 + List.length ([t2.1] : List ApiIns) ≤ 140737488355328) then s_l1 (l4 ++ ([t2.1] : List ApiIns)) t2.2.out v1 v5 (IntKind.wrap .i64 (v7 + v8)) else none)) else none) else none))) else none)
def cm_body.l1 (zB : Y1) (zI : Y2) (zK : Y3) (zO : Y2) (zY : Y5) (zb : Y6) (zR : Y7) (zT : Y2) (zE : Y2) (K : Nat) : Nat → List ApiIns → List (List ApiIns) → List ApiStep → Int → Int → Option (Int × OCM)
  | 0, _, _, _, _, _ => none
  | kl1 + 1, l4, l2, v1, v5, v7 => (if (decide (v7 < (List.length v1 : Int))) = true then cm_body.l2 zB zI zK zO zY zb zR zT zE (cm_body.l1 zB zI zK zO zY zb zR zT zE K kl1) K l2 l4 K v1 v5 v7 1 else (if ((0 : Int) ≤ v5 ∧ v5 < (List.length l2 : Int)) then some (v5, (⟨(List.set l2 (Int.toNat v5) l4)⟩ : OCM)) else none))
def cm_body.b (zB : Y1) (zI : Y2) (zK : Y3) (zO : Y2) (zY : Y5) (zb : Y6) (zR : Y7) (zT : Y2) (zE : Y2) (K : Nat) (v0 : OCM) (v1 : List ApiStep) : Option (Int × OCM) :=
  (if ((List.length v0.out + List.length ([[]] : List (List ApiIns))) * 24 ≤ 140737488355328 ∧ List.length v0.out + List.length ([[]] : List (List ApiIns)) ≤ 140737488355328) then cm_body.l1 zB zI zK zO zY zb zR zT zE K K ([] : List ApiIns) (v0.out ++ ([[]] : List (List ApiIns))) v1 (List.length v0.out : Int) 0 else none)
def cm_ins.j1 (zB : Y1) (zI : Y2) (zK : Y3) (zO : Y2) (zY : Y5) (zb : Y6) (zR : Y7) (zT : Y2) (zE : Y2) (K : Nat) (v0 : OCM) (y5 : ApiIns) : Option (ApiIns × OCM) :=
  some (y5, v0)
def cm_ins.j3 (zB : Y1) (zI : Y2) (zK : Y3) (zO : Y2) (zY : Y5) (zb : Y6) (zR : Y7) (zT : Y2) (zE : Y2) (K : Nat) (v0 : OCM) (y3 : ApiStep) (y5 : ApiIns) (v34 : Bool) : Option (ApiIns × OCM) :=
  (if v34 = true then (Option.bind (code_values.f K y3.Args) fun t3 => cm_ins.j1 zB zI zK zO zY zb zR zT zE K v0 (⟨y5.Op, y5.S, y5.N, t3, y5.P, y5.Kids, y5.Flag⟩ : ApiIns)) else (Option.bind (code_names.f K y3.Args) fun t4 => cm_ins.j1 zB zI zK zO zY zb zR zT zE K v0 (⟨y5.Op, t4, y5.N, y5.V, y5.P, y5.Kids, y5.Flag⟩ : ApiIns)))
def cm_ins.j2 (zB : Y1) (zI : Y2) (zK : Y3) (zO : Y2) (zY : Y5) (zb : Y6) (zR : Y7) (zT : Y2) (zE : Y2) (K : Nat) (v0 : OCM) (y5 : ApiIns) (y3 : ApiStep) (v20 : Int) (v25 : Bool) : Option (ApiIns × OCM) :=
  (if v25 = true then (Option.bind (code_numbers.f K y3.Args) fun t2 => cm_ins.j1 zB zI zK zO zY zb zR zT zE K v0 (⟨y5.Op, y5.S, t2, y5.V, y5.P, y5.Kids, y5.Flag⟩ : ApiIns)) else (if (decide (v20 = 3)) = true then cm_ins.j3 zB zI zK zO zY zb zR zT zE K v0 y3 y5 (decide (v20 = 3)) else (if (decide (v20 = 25)) = true then cm_ins.j3 zB zI zK zO zY zb zR zT zE K v0 y3 y5 (decide (v20 = 25)) else (if (decide (v20 = 29)) = true then cm_ins.j3 zB zI zK zO zY zb zR zT zE K v0 y3 y5 (decide (v20 = 29)) else cm_ins.j3 zB zI zK zO zY zb zR zT zE K v0 y3 y5 (decide (v20 = 30))))))
def cm_ins.b (zB : Y1) (zI : Y2) (zK : Y3) (zO : Y2) (zY : Y5) (zb : Y6) (zR : Y7) (zT : Y2) (zE : Y2) (K : Nat) (v0 : OCM) (v1 : ApiStep) (v2 : List ApiStep) : Option (ApiIns × OCM) :=
  (Option.bind (code_simple.f v1.Name) fun t1 => (if (!decide (t1 = 0)) = true then (if (decide (t1 = 1)) = true then cm_ins.j2 zB zI zK zO zY zb zR zT zE K v0 (⟨t1, [], [], [], (⟨[], [], []⟩ : ApiPred), [], false⟩ : ApiIns) v1 t1 (decide (t1 = 1)) else (if (decide (t1 = 2)) = true then cm_ins.j2 zB zI zK zO zY zb zR zT zE K v0 (⟨t1, [], [], [], (⟨[], [], []⟩ : ApiPred), [], false⟩ : ApiIns) v1 t1 (decide (t1 = 2)) else (if (decide (t1 = 10)) = true then cm_ins.j2 zB zI zK zO zY zb zR zT zE K v0 (⟨t1, [], [], [], (⟨[], [], []⟩ : ApiPred), [], false⟩ : ApiIns) v1 t1 (decide (t1 = 10)) else cm_ins.j2 zB zI zK zO zY zb zR zT zE K v0 (⟨t1, [], [], [], (⟨[], [], []⟩ : ApiPred), [], false⟩ : ApiIns) v1 t1 (decide (t1 = 18))))) else (Option.bind (code_nested.f v1.Name) fun t5 => (if (!decide (t5 = 0)) = true then (Option.bind (zK v0 v1.Args) fun t6 => some ((⟨t5, [], [], [], (⟨[], [], []⟩ : ApiPred), t6.1, false⟩ : ApiIns), t6.2)) else (Option.bind (code_walk.f v1.Name) fun t7 => (if t7.2 = true then (Option.bind (code_names.f K v1.Args) fun t8 => some ((⟨20, t8, t7.1, [], (⟨[], [], []⟩ : ApiPred), [], false⟩ : ApiIns), v0)) else (Option.bind (code_reduce.f v1.Name) fun t9 => (if (!decide (t9 = 0)) = true then some ((⟨33, [], ([t9] : List Int), [], (⟨[], [], []⟩ : ApiPred), [], false⟩ : ApiIns), v0) else (Option.bind (zO v0 v1 v2) fun t10 => some (t10.1, t10.2))))))))))
def cm_kids.l1 (zB : Y1) (zI : Y2) (zK : Y3) (zO : Y2) (zY : Y5) (zb : Y6) (zR : Y7) (zT : Y2) (zE : Y2) (K : Nat) : Nat → List Int → List (List ApiIns) → List ApiArg → Int → Int → Option (List Int × OCM)
  | 0, _, _, _, _, _ => none
  | kl1 + 1, l3, l2, v8, v9, v10 => (if (decide (v10 < v9)) = true then (if ((0 : Int) ≤ v10 ∧ v10 < (List.length v8 : Int)) then (Option.bind (zB (⟨l2⟩ : OCM) ((List.getD v8 (Int.toNat v10) default).T)) fun t1 => (if ((List.length l3 + List.length ([t1.1] : List Int)) * 8 ≤ 140737488355328 ∧ List.length l3 + List.length ([t1.1] : List Int) ≤ 140737488355328) then cm_kids.l1 zB zI zK zO zY zb zR zT zE K kl1 (l3 ++ ([t1.1] : List Int)) t1.2.out v8 v9 (IntKind.wrap .i64 (v10 + 1)) else none)) else none) else some (l3, (⟨l2⟩ : OCM)))
def cm_kids.b (zB : Y1) (zI : Y2) (zK : Y3) (zO : Y2) (zY : Y5) (zb : Y6) (zR : Y7) (zT : Y2) (zE : Y2) (K : Nat) (v0 : OCM) (v1 : List ApiArg) : Option (List Int × OCM) :=
  cm_kids.l1 zB zI zK zO zY zb zR zT zE K K ([] : List Int) v0.out v1 (List.length v1 : Int) 0
def cm_other.j1 (zB : Y1) (zI : Y2) (zK : Y3) (zO : Y2) (zY : Y5) (zb : Y6) (zR : Y7) (zT : Y2) (zE : Y2) (K : Nat) (v0 : OCM) (v7 : List ApiArg) (v8 : Bool) : Option (ApiIns × OCM) :=
  (if ((0 : Int) ≤ 0 ∧ (0 : Int) ≤ 1 ∧ 1 ≤ (List.length v7 : Int)) then (Option.bind (code_names.f K (List.take (Int.toNat 1 - Int.toNat 0) (List.drop (Int.toNat 0) v7))) fun t12 => (if ((0 : Int) ≤ 1 ∧ (1 : Int) ≤ (List.length v7 : Int) ∧ (List.length v7 : Int) ≤ (List.length v7 : Int)) then (Option.bind (code_values.f K (List.take (Int.toNat (List.length v7 : Int) - Int.toNat 1) (List.drop (Int.toNat 1) v7))) fun t13 => some ((⟨45, t12, [], t13, (⟨[], [], []⟩ : ApiPred), [], v8⟩ : ApiIns), v0)) else none)) else none)
def cm_other.b (zB : Y1) (zI : Y2) (zK : Y3) (zO : Y2) (zY : Y5) (zb : Y6) (zR : Y7) (zT : Y2) (zE : Y2) (K : Nat) (v0 : OCM) (v1 : ApiStep) (v2 : List ApiStep) : Option (ApiIns × OCM) :=
  (if (decide (v1.Name = ([104, 97, 115] : List UInt8))) = true then (if (decide ((List.length v1.Args : Int) = 1)) = true then (Option.bind (code_names.f K v1.Args) fun t1 => some ((⟨6, t1, [], [], (⟨[], [], []⟩ : ApiPred), [], false⟩ : ApiIns), v0)) else (if ((0 : Int) ≤ 0 ∧ (0 : Int) ≤ 1 ∧ 1 ≤ (List.length v1.Args : Int)) then (Option.bind (code_names.f K (List.take (Int.toNat 1 - Int.toNat 0) (List.drop (Int.toNat 0) v1.Args))) fun t2 => (if ((0 : Int) ≤ 1 ∧ 1 < (List.length v1.Args : Int)) then (Option.bind (code_pred.f K (List.getD v1.Args (Int.toNat 1) default)) fun t3 => some ((⟨7, t2, [], [], t3, [], false⟩ : ApiIns), v0)) else none)) else none)) else (if (decide (v1.Name = ([105, 115] : List UInt8))) = true then (if ((0 : Int) ≤ 0 ∧ 0 < (List.length v1.Args : Int)) then (Option.bind (code_pred.f K (List.getD v1.Args (Int.toNat 0) default)) fun t4 => some ((⟨11, [], [], [], t4, [], false⟩ : ApiIns), v0)) else none) else (if (decide (v1.Name = ([108, 105, 109, 105, 116] : List UInt8))) = true then (if ((0 : Int) ≤ 0 ∧ 0 < (List.length v1.Args : Int)) then some ((⟨17, [], ([0, ((List.getD v1.Args (Int.toNat 0) default).V).N] : List Int), [], (⟨[], [], []⟩ : ApiPred), [], false⟩ : ApiIns), v0) else none) else (if (decide (v1.Name = ([115, 107, 105, 112] : List UInt8))) = true then (if ((0 : Int) ≤ 0 ∧ 0 < (List.length v1.Args : Int)) then some ((⟨17, [], ([((List.getD v1.Args (Int.toNat 0) default).V).N, (-1)] : List Int), [], (⟨[], [], []⟩ : ApiPred), [], false⟩ : ApiIns), v0) else none) else (if (decide (v1.Name = ([114, 97, 110, 103, 101] : List UInt8))) = true then (Option.bind (code_numbers.f K v1.Args) fun t5 => some ((⟨17, [], t5, [], (⟨[], [], []⟩ : ApiPred), [], false⟩ : ApiIns), v0)) else (if (decide (v1.Name = ([111, 117, 116, 86] : List UInt8))) = true then some ((⟨21, [], ([1] : List Int), [], (⟨[], [], []⟩ : ApiPred), [], false⟩ : ApiIns), v0) else (if (decide (v1.Name = ([105, 110, 86] : List UInt8))) = true then some ((⟨21, [], ([2] : List Int), [], (⟨[], [], []⟩ : ApiPred), [], false⟩ : ApiIns), v0) else (if (decide (v1.Name = ([98, 111, 116, 104, 86] : List UInt8))) = true then some ((⟨21, [], ([3] : List Int), [], (⟨[], [], []⟩ : ApiPred), [], false⟩ : ApiIns), v0) else (if (decide (v1.Name = ([100, 101, 100, 117, 112] : List UInt8))) = true then (Option.bind (zY v0 v2 1) fun t6 => some ((⟨16, [], [], [], (⟨[], [], []⟩ : ApiPred), t6.1, false⟩ : ApiIns), t6.2)) else (if (decide (v1.Name = ([103, 114, 111, 117, 112] : List UInt8))) = true then (Option.bind (zY v0 v2 2) fun t7 => some ((⟨34, [], [], [], (⟨[], [], []⟩ : ApiPred), t7.1, false⟩ : ApiIns), t7.2)) else (if (decide (v1.Name = ([103, 114, 111, 117, 112, 67, 111, 117, 110, 116] : List UInt8))) = true then (Option.bind (zY v0 v2 1) fun t8 => some ((⟨35, [], [], [], (⟨[], [], []⟩ : ApiPred), t8.1, false⟩ : ApiIns), t8.2)) else (if (decide (v1.Name = ([111, 114, 100, 101, 114] : List UInt8))) = true then (Option.bind (zR v0 v2) fun t9 => some (t9.1, t9.2)) else (if (decide (v1.Name = ([114, 101, 112, 101, 97, 116] : List UInt8))) = true then (Option.bind (zT v0 v1 v2) fun t10 => some (t10.1, t10.2)) else (if (decide (v1.Name = ([97, 100, 100, 69] : List UInt8))) = true then (Option.bind (zE v0 v1 v2) fun t11 => some (t11.1, t11.2)) else (if (decide ((List.length v1.Args : Int) = 3)) = true → ((0 : Int) ≤ 0 ∧ 0 < (List.length v1.Args : Int)) then (if (decide ((List.length v1.Args : Int) = 3)) = true then (if ((0 : Int) ≤ 1 ∧ (1 : Int) ≤ (List.length v1.Args : Int) ∧ (List.length v1.Args : Int) ≤ (List.length v1.Args : Int)) then cm_other.j1 zB zI zK zO zY zb zR zT zE K v0 (List.take (Int.toNat (List.length v1.Args : Int) - Int.toNat 1) (List.drop (Int.toNat 1) v1.Args)) ((decide ((List.length v1.Args : Int) = 3)) && (decide ((((List.getD v1.Args (Int.toNat 0) default).V).S) = ([108, 105, 115, 116] : List UInt8)))) else none) else cm_other.j1 zB zI zK zO zY zb zR zT zE K v0 v1.Args ((decide ((List.length v1.Args : Int) = 3)) && (decide ((((List.getD v1.Args (Int.toNat 0) default).V).S) = ([108, 105, 115, 116] : List UInt8))))) else none)))))))))))))))
def cm_bys.j1 (zB : Y1) (zI : Y2) (zK : Y3) (zO : Y2) (zY : Y5) (zb : Y6) (zR : Y7) (zT : Y2) (zE : Y2) (s_l1 : List Int → List (List ApiIns) → List ApiStep → Int → Int → Option (List Int × OCM)) (K : Nat) (l3 : List Int) (l2 : List (List ApiIns)) (v1 : List ApiStep) (v9 : Int) (v10 : Int) (v11 : Int) : Option (List Int × OCM) :=
  (if ((List.length l3 + List.length ([v9] : List Int)) * 8 ≤ 140737488355328 ∧ List.length l3 + List.length ([v9] : List Int) ≤ 140737488355328) then s_l1 (l3 ++ ([v9] : List Int)) l2 v1 v10 (IntKind.wrap .i64 (v11 + 1)) else none)
def cm_bys.l1 (zB : Y1) (zI : Y2) (zK : Y3) (zO : Y2) (zY : Y5) (zb : Y6) (zR : Y7) (zT : Y2) (zE : Y2) (K : Nat) : Nat → List Int → List (List ApiIns) → List ApiStep → Int → Int → Option (List Int × OCM)
  | 0, _, _, _, _, _ => none
  | kl1 + 1, l3, l2, v1, v10, v11 => (if (decide (v11 < v10)) = true then (if (decide (v11 < (List.length v1 : Int))) = true then (if ((0 : Int) ≤ v11 ∧ v11 < (List.length v1 : Int)) then (Option.bind (zb (⟨l2⟩ : OCM) (List.getD v1 (Int.toNat v11) default)) fun t1 => cm_bys.j1 zB zI zK zO zY zb zR zT zE (cm_bys.l1 zB zI zK zO zY zb zR zT zE K kl1) K l3 t1.2.out v1 t1.1 v10 v11) else none) else cm_bys.j1 zB zI zK zO zY zb zR zT zE (cm_bys.l1 zB zI zK zO zY zb zR zT zE K kl1) K l3 l2 v1 (-1) v10 v11) else some (l3, (⟨l2⟩ : OCM)))
def cm_bys.b (zB : Y1) (zI : Y2) (zK : Y3) (zO : Y2) (zY : Y5) (zb : Y6) (zR : Y7) (zT : Y2) (zE : Y2) (K : Nat) (v0 : OCM) (v1 : List ApiStep) (v2 : Int) : Option (List Int × OCM) :=
  cm_bys.l1 zB zI zK zO zY zb zR zT zE K K ([] : List Int) v0.out v1 v2 0
def cm_by.b (zB : Y1) (zI : Y2) (zK : Y3) (zO : Y2) (zY : Y5) (zb : Y6) (zR : Y7) (zT : Y2) (zE : Y2) (K : Nat) (v0 : OCM) (v1 : ApiStep) : Option (Int × OCM) :=
  (if (decide ((List.length v1.Args : Int) = 0)) = false → ((0 : Int) ≤ 0 ∧ 0 < (List.length v1.Args : Int)) then (if ((decide ((List.length v1.Args : Int) = 0)) || (decide (((List.getD v1.Args (Int.toNat 0) default).Kind) = 4))) = true then some ((-1), v0) else (if ((0 : Int) ≤ 0 ∧ 0 < (List.length v1.Args : Int)) then (if (decide (((List.getD v1.Args (Int.toNat 0) default).Kind) = 3)) = true then (Option.bind (zB v0 ((List.getD v1.Args (Int.toNat 0) default).T)) fun t1 => some (t1.1, t1.2)) else (if ((0 : Int) ≤ 0 ∧ (0 : Int) ≤ 1 ∧ 1 ≤ (List.length v1.Args : Int)) then (Option.bind (code_names.f K (List.take (Int.toNat 1 - Int.toNat 0) (List.drop (Int.toNat 0) v1.Args))) fun t2 => (if ((List.length v0.out + List.length ([([(⟨22, t2, [], [], (⟨[], [], []⟩ : ApiPred), [], false⟩ : ApiIns)] : List ApiIns)] : List (List ApiIns))) * 24 ≤ 140737488355328 ∧ List.length v0.out + List.length ([([(⟨22, t2, [], [], (⟨[], [], []⟩ : ApiPred), [], false⟩ : ApiIns)] : List ApiIns)] : List (List ApiIns)) ≤ 140737488355328) then some ((IntKind.wrap .i64 ((List.length (v0.out ++ ([([(⟨22, t2, [], [], (⟨[], [], []⟩ : ApiPred), [], false⟩ : ApiIns)] : List ApiIns)] : List (List ApiIns))) : Int) - 1)), (⟨(v0.out ++ ([([(⟨22, t2, [], [], (⟨[], [], []⟩ : ApiPred), [], false⟩ : ApiIns)] : List ApiIns)] : List (List ApiIns)))⟩ : OCM)) else none)) else none)) else none)) else none)
def cm_order.j1 (zB : Y1) (zI : Y2) (zK : Y3) (zO : Y2) (zY : Y5) (zb : Y6) (zR : Y7) (zT : Y2) (zE : Y2) (s_l1 : List Int → Int → List (List UInt8) → List ApiValue → ApiPred → List Int → Bool → List (List ApiIns) → List ApiStep → Int → Int → Option (ApiIns × OCM)) (K : Nat) (l2 : List (List ApiIns)) (l5 : List Int) (y4_0 : Int) (y4_1 : List (List UInt8)) (y4_3 : List ApiValue) (y4_4 : ApiPred) (y4_5 : List Int) (y4_6 : Bool) (v1 : List ApiStep) (v7 : Int) (v18 : Int) (v19 : Int) : Option (ApiIns × OCM) :=
  (if ((List.length l5 + List.length ([v7] : List Int)) * 8 ≤ 140737488355328 ∧ List.length l5 + List.length ([v7] : List Int) ≤ 140737488355328) then s_l1 (l5 ++ ([v7] : List Int)) y4_0 y4_1 y4_3 y4_4 y4_5 y4_6 l2 v1 v18 (IntKind.wrap .i64 (v19 + 1)) else none)
def cm_order.l1 (zB : Y1) (zI : Y2) (zK : Y3) (zO : Y2) (zY : Y5) (zb : Y6) (zR : Y7) (zT : Y2) (zE : Y2) (K : Nat) : Nat → List Int → Int → List (List UInt8) → List ApiValue → ApiPred → List Int → Bool → List (List ApiIns) → List ApiStep → Int → Int → Option (ApiIns × OCM)
  | 0, _, _, _, _, _, _, _, _, _, _, _ => none
  | kl1 + 1, l5, y4_0, y4_1, y4_3, y4_4, y4_5, y4_6, l2, v1, v18, v19 => (if (decide (v19 < v18)) = true then (if (decide (v19 < (List.length v1 : Int))) = true then (if ((0 : Int) ≤ v19 ∧ v19 < (List.length v1 : Int)) then (if (decide (0 < (List.length ((List.getD v1 (Int.toNat v19) default).Args) : Int))) = true → ((0 : Int) ≤ (IntKind.wrap .i64 ((List.length ((List.getD v1 (Int.toNat v19) default).Args) : Int) - 1)) ∧ (IntKind.wrap .i64 ((List.length ((List.getD v1 (Int.toNat v19) default).Args) : Int) - 1)) < (List.length ((List.getD v1 (Int.toNat v19) default).Args) : Int)) then (if ((decide (0 < (List.length ((List.getD v1 (Int.toNat v19) default).Args) : Int))) && (decide (((List.getD ((List.getD v1 (Int.toNat v19) default).Args) (Int.toNat (IntKind.wrap .i64 ((List.length ((List.getD v1 (Int.toNat v19) default).Args) : Int) - 1))) default).Kind) = 4))) = true → ((0 : Int) ≤ (IntKind.wrap .i64 ((List.length ((List.getD v1 (Int.toNat v19) default).Args) : Int) - 1)) ∧ (IntKind.wrap .i64 ((List.length ((List.getD v1 (Int.toNat v19) default).Args) : Int) - 1)) < (List.length ((List.getD v1 (Int.toNat v19) default).Args) : Int)) then (if (((decide (0 < (List.length ((List.getD v1 (Int.toNat v19) default).Args) : Int))) && (decide (((List.getD ((List.getD v1 (Int.toNat v19) default).Args) (Int.toNat (IntKind.wrap .i64 ((List.length ((List.getD v1 (Int.toNat v19) default).Args) : Int) - 1))) default).Kind) = 4))) && (decide ((((List.getD ((List.getD v1 (Int.toNat v19) default).Args) (Int.toNat (IntKind.wrap .i64 ((List.length ((List.getD v1 (Int.toNat v19) default).Args) : Int) - 1))) default).V).S) = ([100, 101, 115, 99] : List UInt8)))) = true then cm_order.j1 zB zI zK zO zY zb zR zT zE (cm_order.l1 zB zI zK zO zY zb zR zT zE K kl1) K l2 l5 y4_0 y4_1 y4_3 y4_4 y4_5 y4_6 v1 1 v18 v19 else cm_order.j1 zB zI zK zO zY zb zR zT zE (cm_order.l1 zB zI zK zO zY zb zR zT zE K kl1) K l2 l5 y4_0 y4_1 y4_3 y4_4 y4_5 y4_6 v1 0 v18 v19) else none) else none) else none) else cm_order.j1 zB zI zK zO zY zb zR zT zE (cm_order.l1 zB zI zK zO zY zb zR zT zE K kl1) K l2 l5 y4_0 y4_1 y4_3 y4_4 y4_5 y4_6 v1 0 v18 v19) else some ((⟨y4_0, y4_1, l5, y4_3, y4_4, y4_5, y4_6⟩ : ApiIns), (⟨l2⟩ : OCM)))
def cm_order.b (zB : Y1) (zI : Y2) (zK : Y3) (zO : Y2) (zY : Y5) (zb : Y6) (zR : Y7) (zT : Y2) (zE : Y2) (K : Nat) (v0 : OCM) (v1 : List ApiStep) : Option (ApiIns × OCM) :=
  (Option.bind (zY v0 v1 (if (List.length v1 : Int) < 1 then 1 else (List.length v1 : Int))) fun t1 => cm_order.l1 zB zI zK zO zY zb zR zT zE K K ([] : List Int) 36 [] [] (⟨[], [], []⟩ : ApiPred) t1.1 false t1.2.out v1 (List.length t1.1 : Int) 0)
def cm_repeat.j1 (zB : Y1) (zI : Y2) (zK : Y3) (zO : Y2) (zY : Y5) (zb : Y6) (zR : Y7) (zT : Y2) (zE : Y2) (s_l1 : Int → List (List UInt8) → List ApiValue → ApiPred → Bool → List Int → List (List ApiIns) → List Int → List ApiStep → Int → Int → Option (ApiIns × OCM)) (K : Nat) (y7_0 : Int) (y7_1 : List (List UInt8)) (y7_3 : List ApiValue) (y7_4 : ApiPred) (y7_6 : Bool) (l6 : List Int) (l2 : List (List ApiIns)) (l5 : List Int) (v20 : List ApiStep) (v21 : Int) (v22 : Int) : Option (ApiIns × OCM) :=
  s_l1 y7_0 y7_1 y7_3 y7_4 y7_6 l6 l2 l5 v20 v21 (IntKind.wrap .i64 (v22 + 1))
def cm_repeat.l1 (zB : Y1) (zI : Y2) (zK : Y3) (zO : Y2) (zY : Y5) (zb : Y6) (zR : Y7) (zT : Y2) (zE : Y2) (K : Nat) : Nat → Int → List (List UInt8) → List ApiValue → ApiPred → Bool → List Int → List (List ApiIns) → List Int → List ApiStep → Int → Int → Option (ApiIns × OCM)
  | 0, _, _, _, _, _, _, _, _, _, _, _ => none
  | kl1 + 1, y7_0, y7_1, y7_3, y7_4, y7_6, l6, l2, l5, v20, v21, v22 => (if (decide (v22 < v21)) = true then (if ((0 : Int) ≤ v22 ∧ v22 < (List.length v20 : Int)) then (if (decide (((List.getD v20 (Int.toNat v22) default).Name) = ([116, 105, 109, 101, 115] : List UInt8))) = true then (if ((0 : Int) ≤ 0 ∧ 0 < (List.length ((List.getD v20 (Int.toNat v22) default).Args) : Int)) then (if ((0 : Int) ≤ 0 ∧ 0 < (List.length l5 : Int)) then cm_repeat.j1 zB zI zK zO zY zb zR zT zE (cm_repeat.l1 zB zI zK zO zY zb zR zT zE K kl1) K y7_0 y7_1 y7_3 y7_4 y7_6 l6 l2 (List.set l5 (Int.toNat 0) (((List.getD ((List.getD v20 (Int.toNat v22) default).Args) (Int.toNat 0) default).V).N)) v20 v21 v22 else none) else none) else (if (decide (((List.getD v20 (Int.toNat v22) default).Name) = ([117, 110, 116, 105, 108] : List UInt8))) = true then (if ((0 : Int) ≤ 0 ∧ 0 < (List.length ((List.getD v20 (Int.toNat v22) default).Args) : Int)) then (Option.bind (zB (⟨l2⟩ : OCM) ((List.getD ((List.getD v20 (Int.toNat v22) default).Args) (Int.toNat 0) default).T)) fun t2 => (if ((0 : Int) ≤ 1 ∧ 1 < (List.length l6 : Int)) then cm_repeat.j1 zB zI zK zO zY zb zR zT zE (cm_repeat.l1 zB zI zK zO zY zb zR zT zE K kl1) K y7_0 y7_1 y7_3 y7_4 y7_6 (List.set l6 (Int.toNat 1) t2.1) t2.2.out l5 v20 v21 v22 else none)) else none) else cm_repeat.j1 zB zI zK zO zY zb zR zT zE (cm_repeat.l1 zB zI zK zO zY zb zR zT zE K kl1) K y7_0 y7_1 y7_3 y7_4 true l6 l2 l5 v20 v21 v22)) else none) else some ((⟨y7_0, y7_1, l5, y7_3, y7_4, l6, y7_6⟩ : ApiIns), (⟨l2⟩ : OCM)))
def cm_repeat.b (zB : Y1) (zI : Y2) (zK : Y3) (zO : Y2) (zY : Y5) (zb : Y6) (zR : Y7) (zT : Y2) (zE : Y2) (K : Nat) (v0 : OCM) (v1 : ApiStep) (v2 : List ApiStep) : Option (ApiIns × OCM) :=
  (if ((0 : Int) ≤ 0 ∧ 0 < (List.length v1.Args : Int)) then (Option.bind (zB v0 ((List.getD v1.Args (Int.toNat 0) default).T)) fun t1 => cm_repeat.l1 zB zI zK zO zY zb zR zT zE K K 42 [] [] (⟨[], [], []⟩ : ApiPred) false ([t1.1, (-1)] : List Int) t1.2.out ([(-1)] : List Int) v2 (List.length v2 : Int) 0) else none)
def cm_addE.j1 (zB : Y1) (zI : Y2) (zK : Y3) (zO : Y2) (zY : Y5) (zb : Y6) (zR : Y7) (zT : Y2) (zE : Y2) (s_l1 : Int → List (List UInt8) → List Int → List ApiValue → ApiPred → Bool → List Int → List (List ApiIns) → List ApiStep → Int → Int → Option (ApiIns × OCM)) (K : Nat) (l2 : List (List ApiIns)) (y6_0 : Int) (y6_1 : List (List UInt8)) (y6_2 : List Int) (y6_3 : List ApiValue) (y6_4 : ApiPred) (y6_6 : Bool) (l5 : List Int) (v16 : List ApiStep) (v17 : Int) (v18 : Int) : Option (ApiIns × OCM) :=
  s_l1 y6_0 y6_1 y6_2 y6_3 y6_4 y6_6 l5 l2 v16 v17 (IntKind.wrap .i64 (v18 + 1))
def cm_addE.l1 (zB : Y1) (zI : Y2) (zK : Y3) (zO : Y2) (zY : Y5) (zb : Y6) (zR : Y7) (zT : Y2) (zE : Y2) (K : Nat) : Nat → Int → List (List UInt8) → List Int → List ApiValue → ApiPred → Bool → List Int → List (List ApiIns) → List ApiStep → Int → Int → Option (ApiIns × OCM)
  | 0, _, _, _, _, _, _, _, _, _, _, _ => none
  | kl1 + 1, y6_0, y6_1, y6_2, y6_3, y6_4, y6_6, l5, l2, v16, v17, v18 => (if (decide (v18 < v17)) = true then (if ((0 : Int) ≤ v18 ∧ v18 < (List.length v16 : Int)) then (if ((0 : Int) ≤ 0 ∧ 0 < (List.length ((List.getD v16 (Int.toNat v18) default).Args) : Int)) then (Option.bind (zB (⟨l2⟩ : OCM) ((List.getD ((List.getD v16 (Int.toNat v18) default).Args) (Int.toNat 0) default).T)) fun t2 => (if (decide (((List.getD v16 (Int.toNat v18) default).Name) = ([116, 111] : List UInt8))) = true then (if ((0 : Int) ≤ 0 ∧ 0 < (List.length l5 : Int)) then cm_addE.j1 zB zI zK zO zY zb zR zT zE (cm_addE.l1 zB zI zK zO zY zb zR zT zE K kl1) K t2.2.out y6_0 y6_1 y6_2 y6_3 y6_4 y6_6 (List.set l5 (Int.toNat 0) t2.1) v16 v17 v18 else none) else (if ((0 : Int) ≤ 1 ∧ 1 < (List.length l5 : Int)) then cm_addE.j1 zB zI zK zO zY zb zR zT zE (cm_addE.l1 zB zI zK zO zY zb zR zT zE K kl1) K t2.2.out y6_0 y6_1 y6_2 y6_3 y6_4 y6_6 (List.set l5 (Int.toNat 1) t2.1) v16 v17 v18 else none))) else none) else none) else some ((⟨y6_0, y6_1, y6_2, y6_3, y6_4, l5, y6_6⟩ : ApiIns), (⟨l2⟩ : OCM)))
def cm_addE.b (zB : Y1) (zI : Y2) (zK : Y3) (zO : Y2) (zY : Y5) (zb : Y6) (zR : Y7) (zT : Y2) (zE : Y2) (K : Nat) (v0 : OCM) (v1 : ApiStep) (v2 : List ApiStep) : Option (ApiIns × OCM) :=
  (Option.bind (code_names.f K v1.Args) fun t1 => cm_addE.l1 zB zI zK zO zY zb zR zT zE K K 5 t1 [] [] (⟨[], [], []⟩ : ApiPred) false ([(-1), (-1)] : List Int) v0.out v2 (List.length v2 : Int) 0)
mutual
def cm_body.f : Nat → OCM → List ApiStep → Option (Int × OCM)
  | 0, _, _ => none
  | K + 1, v0, v1 => cm_body.b (cm_body.f K) (cm_ins.f K) (cm_kids.f K) (cm_other.f K) (cm_bys.f K) (cm_by.f K) (cm_order.f K) (cm_repeat.f K) (cm_addE.f K) K v0 v1
def cm_ins.f : Nat → OCM → ApiStep → List ApiStep → Option (ApiIns × OCM)
  | 0, _, _, _ => none
  | K + 1, v0, v1, v2 => cm_ins.b (cm_body.f K) (cm_ins.f K) (cm_kids.f K) (cm_other.f K) (cm_bys.f K) (cm_by.f K) (cm_order.f K) (cm_repeat.f K) (cm_addE.f K) K v0 v1 v2
def cm_kids.f : Nat → OCM → List ApiArg → Option (List Int × OCM)
  | 0, _, _ => none
  | K + 1, v0, v1 => cm_kids.b (cm_body.f K) (cm_ins.f K) (cm_kids.f K) (cm_other.f K) (cm_bys.f K) (cm_by.f K) (cm_order.f K) (cm_repeat.f K) (cm_addE.f K) K v0 v1
def cm_other.f : Nat → OCM → ApiStep → List ApiStep → Option (ApiIns × OCM)
  | 0, _, _, _ => none
  | K + 1, v0, v1, v2 => cm_other.b (cm_body.f K) (cm_ins.f K) (cm_kids.f K) (cm_other.f K) (cm_bys.f K) (cm_by.f K) (cm_order.f K) (cm_repeat.f K) (cm_addE.f K) K v0 v1 v2
def cm_bys.f : Nat → OCM → List ApiStep → Int → Option (List Int × OCM)
  | 0, _, _, _ => none
  | K + 1, v0, v1, v2 => cm_bys.b (cm_body.f K) (cm_ins.f K) (cm_kids.f K) (cm_other.f K) (cm_bys.f K) (cm_by.f K) (cm_order.f K) (cm_repeat.f K) (cm_addE.f K) K v0 v1 v2
def cm_by.f : Nat → OCM → ApiStep → Option (Int × OCM)
  | 0, _, _ => none
  | K + 1, v0, v1 => cm_by.b (cm_body.f K) (cm_ins.f K) (cm_kids.f K) (cm_other.f K) (cm_bys.f K) (cm_by.f K) (cm_order.f K) (cm_repeat.f K) (cm_addE.f K) K v0 v1
def cm_order.f : Nat → OCM → List ApiStep → Option (ApiIns × OCM)
  | 0, _, _ => none
  | K + 1, v0, v1 => cm_order.b (cm_body.f K) (cm_ins.f K) (cm_kids.f K) (cm_other.f K) (cm_bys.f K) (cm_by.f K) (cm_order.f K) (cm_repeat.f K) (cm_addE.f K) K v0 v1
def cm_repeat.f : Nat → OCM → ApiStep → List ApiStep → Option (ApiIns × OCM)
  | 0, _, _, _ => none
  | K + 1, v0, v1, v2 => cm_repeat.b (cm_body.f K) (cm_ins.f K) (cm_kids.f K) (cm_other.f K) (cm_bys.f K) (cm_by.f K) (cm_order.f K) (cm_repeat.f K) (cm_addE.f K) K v0 v1 v2
def cm_addE.f : Nat → OCM → ApiStep → List ApiStep → Option (ApiIns × OCM)
  | 0, _, _, _ => none
  | K + 1, v0, v1, v2 => cm_addE.b (cm_body.f K) (cm_ins.f K) (cm_kids.f K) (cm_other.f K) (cm_bys.f K) (cm_by.f K) (cm_order.f K) (cm_repeat.f K) (cm_addE.f K) K v0 v1 v2
end
def code_Compile.f (K : Nat) (v0 : List ApiStep) : Option (ApiProg × Int) :=
  (Option.bind (check_Check.f K v0) fun t1 => (if (!decide (t1 = 0)) = true then some ((⟨[]⟩ : ApiProg), t1) else (Option.bind (cm_body.f K (⟨([] : List (List ApiIns))⟩ : OCM) v0) fun t2 => some ((⟨t2.2.out⟩ : ApiProg), 0))))
def w15_awake.f (K : Nat)  : Option Bool :=
  (Option.bind (r12_Parse.f K ([103, 46, 86, 40, 41, 46, 111, 117, 116, 40, 39, 97, 39, 41] : List UInt8)) fun t1 => (Option.bind (code_Compile.f K t1.1) fun t2 => (if (((decide (t1.2.2 = 0)) && (decide (t2.2 = 0))) && (decide ((List.length t2.1.Bodies : Int) = 1))) = true → ((0 : Int) ≤ 0 ∧ 0 < (List.length t2.1.Bodies : Int)) then (if ((((decide (t1.2.2 = 0)) && (decide (t2.2 = 0))) && (decide ((List.length t2.1.Bodies : Int) = 1))) && (decide ((List.length (List.getD t2.1.Bodies (Int.toNat 0) default) : Int) = 2))) = true → ((0 : Int) ≤ 0 ∧ 0 < (List.length t2.1.Bodies : Int)) then (if ((((decide (t1.2.2 = 0)) && (decide (t2.2 = 0))) && (decide ((List.length t2.1.Bodies : Int) = 1))) && (decide ((List.length (List.getD t2.1.Bodies (Int.toNat 0) default) : Int) = 2))) = true → ((0 : Int) ≤ 1 ∧ 1 < (List.length (List.getD t2.1.Bodies (Int.toNat 0) default) : Int)) then some ((((((decide (t1.2.2 = 0)) && (decide (t2.2 = 0))) && (decide ((List.length t2.1.Bodies : Int) = 1))) && (decide ((List.length (List.getD t2.1.Bodies (Int.toNat 0) default) : Int) = 2))) && (decide (((List.getD (List.getD t2.1.Bodies (Int.toNat 0) default) (Int.toNat 1) default).Op) = 20)))) else none) else none) else none)))
def offshootref13_Number.l1 (K : Nat) : Nat → Int → Bool → List UInt8 → Option (List UInt8)
  | 0, _, _, _ => none
  | kl1 + 1, v3, v4, v5 => (if ((decide (0 < v3)) || (decide (v5 = ([] : List UInt8)))) = true then (if (List.length (FW.toB ([(IntKind.wrap .u8 (48 + (IntKind.wrap .u8 (Int.tmod v3 10))))] : List Int)) : Int) + List.length v5 ≤ 9223372036854775807 then offshootref13_Number.l1 K kl1 (IntKind.wrap .u64 (Int.tdiv v3 10)) v4 ((FW.toB ([(IntKind.wrap .u8 (48 + (IntKind.wrap .u8 (Int.tmod v3 10))))] : List Int)) ++ v5) else none) else (if v4 = true then (if (List.length ([45] : List UInt8) : Int) + List.length v5 ≤ 9223372036854775807 then some ((([45] : List UInt8) ++ v5)) else none) else some (v5)))
def offshootref13_Number.j1 (K : Nat) (v3 : Int) (v4 : Bool) : Option (List UInt8) :=
  offshootref13_Number.l1 K K v3 v4 ([] : List UInt8)
def offshootref13_Number.f (K : Nat) (v0 : Int) : Option (List UInt8) :=
  (if (decide (v0 < 0)) = true then offshootref13_Number.j1 K (IntKind.wrap .u64 (0 - (IntKind.wrap .u64 v0))) (decide (v0 < 0)) else offshootref13_Number.j1 K (IntKind.wrap .u64 v0) (decide (v0 < 0)))
def r02_Eight.l1 (K : Nat) : Nat → Int → List UInt8 → Int → Option (List UInt8)
  | 0, _, _, _ => none
  | kl1 + 1, v0, v3, v4 => (if (decide (v4 < 8)) = true then (if (List.length (FW.toB ([(IntKind.wrap .u8 (Int.tmod v0 256))] : List Int)) : Int) + List.length v3 ≤ 9223372036854775807 then r02_Eight.l1 K kl1 (IntKind.wrap .u64 (Int.tdiv v0 256)) ((FW.toB ([(IntKind.wrap .u8 (Int.tmod v0 256))] : List Int)) ++ v3) (IntKind.wrap .i64 (v4 + 1)) else none) else some (v3))
def r02_Eight.f (K : Nat) (v0 : Int) : Option (List UInt8) :=
  r02_Eight.l1 K K v0 ([] : List UInt8) 0
def offshootref13_hex.f  (v0 : Int) : Option (List UInt8) :=
  (if ((0 : Int) ≤ (IntKind.wrap .u8 (Int.tdiv v0 16)) ∧ ((IntKind.wrap .u8 (Int.tdiv v0 16)) : Int) ≤ (IntKind.wrap .u8 ((IntKind.wrap .u8 (Int.tdiv v0 16)) + 1)) ∧ (IntKind.wrap .u8 ((IntKind.wrap .u8 (Int.tdiv v0 16)) + 1)) ≤ (List.length ([48, 49, 50, 51, 52, 53, 54, 55, 56, 57, 97, 98, 99, 100, 101, 102] : List UInt8) : Int)) then (if ((0 : Int) ≤ (Int.tmod v0 16) ∧ ((Int.tmod v0 16) : Int) ≤ (IntKind.wrap .u8 ((Int.tmod v0 16) + 1)) ∧ (IntKind.wrap .u8 ((Int.tmod v0 16) + 1)) ≤ (List.length ([48, 49, 50, 51, 52, 53, 54, 55, 56, 57, 97, 98, 99, 100, 101, 102] : List UInt8) : Int)) then (if (List.length (List.take (Int.toNat (IntKind.wrap .u8 ((IntKind.wrap .u8 (Int.tdiv v0 16)) + 1)) - Int.toNat (IntKind.wrap .u8 (Int.tdiv v0 16))) (List.drop (Int.toNat (IntKind.wrap .u8 (Int.tdiv v0 16))) ([48, 49, 50, 51, 52, 53, 54, 55, 56, 57, 97, 98, 99, 100, 101, 102] : List UInt8))) : Int) + List.length (List.take (Int.toNat (IntKind.wrap .u8 ((Int.tmod v0 16) + 1)) - Int.toNat (Int.tmod v0 16)) (List.drop (Int.toNat (Int.tmod v0 16)) ([48, 49, 50, 51, 52, 53, 54, 55, 56, 57, 97, 98, 99, 100, 101, 102] : List UInt8))) ≤ 9223372036854775807 then some (((List.take (Int.toNat (IntKind.wrap .u8 ((IntKind.wrap .u8 (Int.tdiv v0 16)) + 1)) - Int.toNat (IntKind.wrap .u8 (Int.tdiv v0 16))) (List.drop (Int.toNat (IntKind.wrap .u8 (Int.tdiv v0 16))) ([48, 49, 50, 51, 52, 53, 54, 55, 56, 57, 97, 98, 99, 100, 101, 102] : List UInt8))) ++ (List.take (Int.toNat (IntKind.wrap .u8 ((Int.tmod v0 16) + 1)) - Int.toNat (Int.tmod v0 16)) (List.drop (Int.toNat (Int.tmod v0 16)) ([48, 49, 50, 51, 52, 53, 54, 55, 56, 57, 97, 98, 99, 100, 101, 102] : List UInt8))))) else none) else none) else none)
def offshootref13_Text.j1 (s_l1 : List UInt8 → List UInt8 → Int → Option (List UInt8)) (K : Nat) (v0 : List UInt8) (v3 : List UInt8) (v4 : Int) : Option (List UInt8) :=
  s_l1 v0 v3 (IntKind.wrap .i64 (v4 + 1))
def offshootref13_Text.j2 (s_l1 : List UInt8 → List UInt8 → Int → Option (List UInt8)) (K : Nat) (v0 : List UInt8) (v3 : List UInt8) (v4 : Int) (v5 : Int) : Option (List UInt8) :=
  (if ((decide (v5 < 32)) || (decide (126 < v5))) = true then (Option.bind (offshootref13_hex.f v5) fun t1 => (if (List.length ([92, 120] : List UInt8) : Int) + List.length t1 ≤ 9223372036854775807 then (if (List.length v3 : Int) + List.length (([92, 120] : List UInt8) ++ t1) ≤ 9223372036854775807 then offshootref13_Text.j1 s_l1 K v0 (v3 ++ (([92, 120] : List UInt8) ++ t1)) v4 else none) else none)) else (if ((0 : Int) ≤ v4 ∧ (v4 : Int) ≤ (IntKind.wrap .i64 (v4 + 1)) ∧ (IntKind.wrap .i64 (v4 + 1)) ≤ (List.length v0 : Int)) then (if (List.length v3 : Int) + List.length (List.take (Int.toNat (IntKind.wrap .i64 (v4 + 1)) - Int.toNat v4) (List.drop (Int.toNat v4) v0)) ≤ 9223372036854775807 then offshootref13_Text.j1 s_l1 K v0 (v3 ++ (List.take (Int.toNat (IntKind.wrap .i64 (v4 + 1)) - Int.toNat v4) (List.drop (Int.toNat v4) v0))) v4 else none) else none))
def offshootref13_Text.l1 (K : Nat) : Nat → List UInt8 → List UInt8 → Int → Option (List UInt8)
  | 0, _, _, _ => none
  | kl1 + 1, v0, v3, v4 => (if (decide (v4 < (List.length v0 : Int))) = true then (if ((0 : Int) ≤ v4 ∧ v4 < (List.length v0 : Int)) then (if ((decide ((FW.bt v0 v4) = 39)) || (decide ((FW.bt v0 v4) = 92))) = true then (if (List.length v3 : Int) + List.length ([92] : List UInt8) ≤ 9223372036854775807 then offshootref13_Text.j2 (offshootref13_Text.l1 K kl1) K v0 (v3 ++ ([92] : List UInt8)) v4 (FW.bt v0 v4) else none) else offshootref13_Text.j2 (offshootref13_Text.l1 K kl1) K v0 v3 v4 (FW.bt v0 v4)) else none) else (if (List.length v3 : Int) + List.length ([39] : List UInt8) ≤ 9223372036854775807 then some ((v3 ++ ([39] : List UInt8))) else none))
def offshootref13_Text.f (K : Nat) (v0 : List UInt8) : Option (List UInt8) :=
  offshootref13_Text.l1 K K v0 ([39] : List UInt8) 0
def offshootref13_Values.j1 (s_offshootref13_Values : List ApiValue → Option (List UInt8)) (s_offshootref13_Value : ApiValue → Option (List UInt8)) (s_l1 : List ApiValue → List UInt8 → Int → Option (List UInt8)) (K : Nat) (v0 : List ApiValue) (v3 : List UInt8) (v4 : Int) : Option (List UInt8) :=
  (if ((0 : Int) ≤ v4 ∧ v4 < (List.length v0 : Int)) then (Option.bind (s_offshootref13_Value (List.getD v0 (Int.toNat v4) default)) fun t1 => (if (List.length v3 : Int) + List.length t1 ≤ 9223372036854775807 then s_l1 v0 (v3 ++ t1) (IntKind.wrap .i64 (v4 + 1)) else none)) else none)
def offshootref13_Values.l1 (s_offshootref13_Values : List ApiValue → Option (List UInt8)) (s_offshootref13_Value : ApiValue → Option (List UInt8)) (K : Nat) : Nat → List ApiValue → List UInt8 → Int → Option (List UInt8)
  | 0, _, _, _ => none
  | kl1 + 1, v0, v3, v4 => (if (decide (v4 < (List.length v0 : Int))) = true then (if (decide (0 < v4)) = true then (if (List.length v3 : Int) + List.length ([44, 32] : List UInt8) ≤ 9223372036854775807 then offshootref13_Values.j1 s_offshootref13_Values s_offshootref13_Value (offshootref13_Values.l1 s_offshootref13_Values s_offshootref13_Value K kl1) K v0 (v3 ++ ([44, 32] : List UInt8)) v4 else none) else offshootref13_Values.j1 s_offshootref13_Values s_offshootref13_Value (offshootref13_Values.l1 s_offshootref13_Values s_offshootref13_Value K kl1) K v0 v3 v4) else some (v3))
def offshootref13_Values.b (s_offshootref13_Values : List ApiValue → Option (List UInt8)) (s_offshootref13_Value : ApiValue → Option (List UInt8)) (K : Nat) (v0 : List ApiValue) : Option (List UInt8) :=
  offshootref13_Values.l1 s_offshootref13_Values s_offshootref13_Value K K v0 ([] : List UInt8) 0
def offshootref13_Value.l1 (s_offshootref13_Values : List ApiValue → Option (List UInt8)) (s_offshootref13_Value : ApiValue → Option (List UInt8)) (K : Nat) : Nat → List UInt8 → List UInt8 → Int → Option (List UInt8)
  | 0, _, _, _ => none
  | kl1 + 1, v3, v4, v5 => (if (decide (v5 < 8)) = true then (if ((0 : Int) ≤ v5 ∧ v5 < (List.length v3 : Int)) then (Option.bind (offshootref13_hex.f (FW.bt v3 v5)) fun t4 => (if (List.length v4 : Int) + List.length t4 ≤ 9223372036854775807 then offshootref13_Value.l1 s_offshootref13_Values s_offshootref13_Value K kl1 v3 (v4 ++ t4) (IntKind.wrap .i64 (v5 + 1)) else none)) else none) else (if (List.length ([102, 39] : List UInt8) : Int) + List.length v4 ≤ 9223372036854775807 then (if (List.length (([102, 39] : List UInt8) ++ v4) : Int) + List.length ([39] : List UInt8) ≤ 9223372036854775807 then some (((([102, 39] : List UInt8) ++ v4) ++ ([39] : List UInt8))) else none) else none))
def offshootref13_Value.b (s_offshootref13_Values : List ApiValue → Option (List UInt8)) (s_offshootref13_Value : ApiValue → Option (List UInt8)) (K : Nat) (v0 : ApiValue) : Option (List UInt8) :=
  (if (decide (v0.Kind = 0)) = true then some (([110, 117, 108, 108] : List UInt8)) else (if (decide (v0.Kind = 1)) = true then (if v0.B = true then some (([116, 114, 117, 101] : List UInt8)) else some (([102, 97, 108, 115, 101] : List UInt8))) else (if (decide (v0.Kind = 2)) = true then (Option.bind (offshootref13_Number.f K v0.N) fun t1 => some (t1)) else (if (decide (v0.Kind = 3)) = true then (Option.bind (r01_Canon.f v0.F) fun t2 => (Option.bind (r02_Eight.f K t2) fun t3 => offshootref13_Value.l1 s_offshootref13_Values s_offshootref13_Value K K t3 ([] : List UInt8) 0)) else (if (decide (v0.Kind = 4)) = true then (Option.bind (offshootref13_Text.f K v0.S) fun t5 => some (t5)) else (if (decide (v0.Kind = 5)) = true then (Option.bind (s_offshootref13_Values v0.L) fun t6 => (if (List.length ([91] : List UInt8) : Int) + List.length t6 ≤ 9223372036854775807 then (if (List.length (([91] : List UInt8) ++ t6) : Int) + List.length ([93] : List UInt8) ≤ 9223372036854775807 then some (((([91] : List UInt8) ++ t6) ++ ([93] : List UInt8))) else none) else none)) else (if (decide (v0.Kind = 6)) = true then (Option.bind (s_offshootref13_Values v0.L) fun t7 => (if (List.length ([123] : List UInt8) : Int) + List.length t7 ≤ 9223372036854775807 then (if (List.length (([123] : List UInt8) ++ t7) : Int) + List.length ([125] : List UInt8) ≤ 9223372036854775807 then some (((([123] : List UInt8) ++ t7) ++ ([125] : List UInt8))) else none) else none)) else (if (decide (v0.Kind = 7)) = true then (Option.bind (offshootref13_Number.f K v0.N) fun t8 => (if (List.length ([118, 40] : List UInt8) : Int) + List.length t8 ≤ 9223372036854775807 then (if (List.length (([118, 40] : List UInt8) ++ t8) : Int) + List.length ([41] : List UInt8) ≤ 9223372036854775807 then some (((([118, 40] : List UInt8) ++ t8) ++ ([41] : List UInt8))) else none) else none)) else (if (decide (v0.Kind = 8)) = true then (Option.bind (offshootref13_Number.f K v0.N) fun t9 => (if (List.length ([101, 40] : List UInt8) : Int) + List.length t9 ≤ 9223372036854775807 then (if (List.length (([101, 40] : List UInt8) ++ t9) : Int) + List.length ([41] : List UInt8) ≤ 9223372036854775807 then some (((([101, 40] : List UInt8) ++ t9) ++ ([41] : List UInt8))) else none) else none)) else some (([63] : List UInt8)))))))))))
mutual
def offshootref13_Values.f : Nat → List ApiValue → Option (List UInt8)
  | 0, _ => none
  | K + 1, v0 => offshootref13_Values.b (offshootref13_Values.f K) (offshootref13_Value.f K) K v0
def offshootref13_Value.f : Nat → ApiValue → Option (List UInt8)
  | 0, _ => none
  | K + 1, v0 => offshootref13_Value.b (offshootref13_Values.f K) (offshootref13_Value.f K) K v0
end
def offshootref13_Pred.j1 (s_offshootref13_Pred : ApiPred → Option (List UInt8)) (K : Nat) (y1 : ApiPred) (v4 : List UInt8) (v5 : Bool) : Option (List UInt8) :=
  (if v5 = true then (if ((0 : Int) ≤ 0 ∧ 0 < (List.length y1.Kids : Int)) then (Option.bind (s_offshootref13_Pred (List.getD y1.Kids (Int.toNat 0) default)) fun t1 => (if (List.length t1 : Int) + List.length ([46] : List UInt8) ≤ 9223372036854775807 then (if (List.length (t1 ++ ([46] : List UInt8)) : Int) + List.length y1.Op ≤ 9223372036854775807 then (if (List.length ((t1 ++ ([46] : List UInt8)) ++ y1.Op) : Int) + List.length ([40] : List UInt8) ≤ 9223372036854775807 then (if ((0 : Int) ≤ 1 ∧ 1 < (List.length y1.Kids : Int)) then (Option.bind (s_offshootref13_Pred (List.getD y1.Kids (Int.toNat 1) default)) fun t2 => (if (List.length (((t1 ++ ([46] : List UInt8)) ++ y1.Op) ++ ([40] : List UInt8)) : Int) + List.length t2 ≤ 9223372036854775807 then (if (List.length ((((t1 ++ ([46] : List UInt8)) ++ y1.Op) ++ ([40] : List UInt8)) ++ t2) : Int) + List.length ([41] : List UInt8) ≤ 9223372036854775807 then some ((((((t1 ++ ([46] : List UInt8)) ++ y1.Op) ++ ([40] : List UInt8)) ++ t2) ++ ([41] : List UInt8))) else none) else none)) else none) else none) else none) else none)) else none) else (if (decide (v4 = ([110, 111, 116] : List UInt8))) = true then (if ((0 : Int) ≤ 0 ∧ 0 < (List.length y1.Kids : Int)) then (Option.bind (s_offshootref13_Pred (List.getD y1.Kids (Int.toNat 0) default)) fun t3 => (if (List.length t3 : Int) + List.length ([46, 110, 101, 103, 97, 116, 101, 40, 41] : List UInt8) ≤ 9223372036854775807 then some ((t3 ++ ([46, 110, 101, 103, 97, 116, 101, 40, 41] : List UInt8))) else none)) else none) else (if (List.length y1.Op : Int) + List.length ([40] : List UInt8) ≤ 9223372036854775807 then (Option.bind (offshootref13_Values.f K y1.L) fun t4 => (if (List.length (y1.Op ++ ([40] : List UInt8)) : Int) + List.length t4 ≤ 9223372036854775807 then (if (List.length ((y1.Op ++ ([40] : List UInt8)) ++ t4) : Int) + List.length ([41] : List UInt8) ≤ 9223372036854775807 then some ((((y1.Op ++ ([40] : List UInt8)) ++ t4) ++ ([41] : List UInt8))) else none) else none)) else none)))
def offshootref13_Pred.b (s_offshootref13_Pred : ApiPred → Option (List UInt8)) (K : Nat) (v0 : ApiPred) : Option (List UInt8) :=
  (if (decide (v0.Op = ([97, 110, 100] : List UInt8))) = true then offshootref13_Pred.j1 s_offshootref13_Pred K v0 v0.Op (decide (v0.Op = ([97, 110, 100] : List UInt8))) else offshootref13_Pred.j1 s_offshootref13_Pred K v0 v0.Op (decide (v0.Op = ([111, 114] : List UInt8))))
def offshootref13_Pred.f : Nat → ApiPred → Option (List UInt8)
  | 0, _ => none
  | K + 1, v0 => offshootref13_Pred.b (offshootref13_Pred.f K) K v0
def offshootref13_Steps.j2 (s_offshootref13_Steps : List ApiStep → Option (List UInt8)) (s_l1 : List ApiStep → List UInt8 → Int → Option (List UInt8)) (s_l2 : List ApiStep → List UInt8 → Int → Int → Option (List UInt8)) (K : Nat) (v0 : List ApiStep) (v3 : List UInt8) (v4 : Int) (v5 : Int) : Option (List UInt8) :=
  s_l2 v0 v3 v4 (IntKind.wrap .i64 (v5 + 1))
def offshootref13_Steps.j3 (s_offshootref13_Steps : List ApiStep → Option (List UInt8)) (s_l1 : List ApiStep → List UInt8 → Int → Option (List UInt8)) (s_l2 : List ApiStep → List UInt8 → Int → Int → Option (List UInt8)) (K : Nat) (v0 : List ApiStep) (v4 : Int) (v5 : Int) (v0 : List ApiStep) (v3 : List UInt8) (v4 : Int) (v5 : Int) : Option (List UInt8) :=
  (if (decide (((List.getD ((List.getD v0 (Int.toNat v4) default).Args) (Int.toNat v5) default).Kind) = 2)) = true then (Option.bind (offshootref13_Pred.f K ((List.getD ((List.getD v0 (Int.toNat v4) default).Args) (Int.toNat v5) default).P)) fun t1 => (if (List.length v3 : Int) + List.length t1 ≤ 9223372036854775807 then offshootref13_Steps.j2 s_offshootref13_Steps s_l1 s_l2 K v0 (v3 ++ t1) v4 v5 else none)) else (if (decide (((List.getD ((List.getD v0 (Int.toNat v4) default).Args) (Int.toNat v5) default).Kind) = 3)) = true then (Option.bind (s_offshootref13_Steps ((List.getD ((List.getD v0 (Int.toNat v4) default).Args) (Int.toNat v5) default).T)) fun t2 => (if (List.length ([95, 95, 46] : List UInt8) : Int) + List.length t2 ≤ 9223372036854775807 then (if (List.length v3 : Int) + List.length (([95, 95, 46] : List UInt8) ++ t2) ≤ 9223372036854775807 then offshootref13_Steps.j2 s_offshootref13_Steps s_l1 s_l2 K v0 (v3 ++ (([95, 95, 46] : List UInt8) ++ t2)) v4 v5 else none) else none)) else (if (decide (((List.getD ((List.getD v0 (Int.toNat v4) default).Args) (Int.toNat v5) default).Kind) = 4)) = true then (if (List.length v3 : Int) + List.length (((List.getD ((List.getD v0 (Int.toNat v4) default).Args) (Int.toNat v5) default).V).S) ≤ 9223372036854775807 then offshootref13_Steps.j2 s_offshootref13_Steps s_l1 s_l2 K v0 (v3 ++ (((List.getD ((List.getD v0 (Int.toNat v4) default).Args) (Int.toNat v5) default).V).S)) v4 v5 else none) else (Option.bind (offshootref13_Value.f K ((List.getD ((List.getD v0 (Int.toNat v4) default).Args) (Int.toNat v5) default).V)) fun t3 => (if (List.length v3 : Int) + List.length t3 ≤ 9223372036854775807 then offshootref13_Steps.j2 s_offshootref13_Steps s_l1 s_l2 K v0 (v3 ++ t3) v4 v5 else none)))))
def offshootref13_Steps.l2 (s_offshootref13_Steps : List ApiStep → Option (List UInt8)) (s_l1 : List ApiStep → List UInt8 → Int → Option (List UInt8)) (K : Nat) : Nat → List ApiStep → List UInt8 → Int → Int → Option (List UInt8)
  | 0, _, _, _, _ => none
  | kl2 + 1, v0, v3, v4, v5 => (if ((0 : Int) ≤ v4 ∧ v4 < (List.length v0 : Int)) then (if (decide (v5 < (List.length ((List.getD v0 (Int.toNat v4) default).Args) : Int))) = true then (if ((0 : Int) ≤ v4 ∧ v4 < (List.length v0 : Int)) then (if ((0 : Int) ≤ v5 ∧ v5 < (List.length ((List.getD v0 (Int.toNat v4) default).Args) : Int)) then (if (decide (0 < v5)) = true then (if (List.length v3 : Int) + List.length ([44, 32] : List UInt8) ≤ 9223372036854775807 then offshootref13_Steps.j3 s_offshootref13_Steps s_l1 (offshootref13_Steps.l2 s_offshootref13_Steps s_l1 K kl2) K v0 v4 v5 v0 (v3 ++ ([44, 32] : List UInt8)) v4 v5 else none) else offshootref13_Steps.j3 s_offshootref13_Steps s_l1 (offshootref13_Steps.l2 s_offshootref13_Steps s_l1 K kl2) K v0 v4 v5 v0 v3 v4 v5) else none) else none) else (if (List.length v3 : Int) + List.length ([41] : List UInt8) ≤ 9223372036854775807 then s_l1 v0 (v3 ++ ([41] : List UInt8)) (IntKind.wrap .i64 (v4 + 1)) else none)) else none)
def offshootref13_Steps.j1 (s_offshootref13_Steps : List ApiStep → Option (List UInt8)) (s_l1 : List ApiStep → List UInt8 → Int → Option (List UInt8)) (K : Nat) (v0 : List ApiStep) (v3 : List UInt8) (v4 : Int) : Option (List UInt8) :=
  (if ((0 : Int) ≤ v4 ∧ v4 < (List.length v0 : Int)) then (if (List.length ((List.getD v0 (Int.toNat v4) default).Name) : Int) + List.length ([40] : List UInt8) ≤ 9223372036854775807 then (if (List.length v3 : Int) + List.length (((List.getD v0 (Int.toNat v4) default).Name) ++ ([40] : List UInt8)) ≤ 9223372036854775807 then offshootref13_Steps.l2 s_offshootref13_Steps s_l1 K K v0 (v3 ++ (((List.getD v0 (Int.toNat v4) default).Name) ++ ([40] : List UInt8))) v4 0 else none) else none) else none)
def offshootref13_Steps.l1 (s_offshootref13_Steps : List ApiStep → Option (List UInt8)) (K : Nat) : Nat → List ApiStep → List UInt8 → Int → Option (List UInt8)
  | 0, _, _, _ => none
  | kl1 + 1, v0, v3, v4 => (if (decide (v4 < (List.length v0 : Int))) = true then (if (decide (0 < v4)) = true then (if (List.length v3 : Int) + List.length ([46] : List UInt8) ≤ 9223372036854775807 then offshootref13_Steps.j1 s_offshootref13_Steps (offshootref13_Steps.l1 s_offshootref13_Steps K kl1) K v0 (v3 ++ ([46] : List UInt8)) v4 else none) else offshootref13_Steps.j1 s_offshootref13_Steps (offshootref13_Steps.l1 s_offshootref13_Steps K kl1) K v0 v3 v4) else some (v3))
def offshootref13_Steps.b (s_offshootref13_Steps : List ApiStep → Option (List UInt8)) (K : Nat) (v0 : List ApiStep) : Option (List UInt8) :=
  offshootref13_Steps.l1 s_offshootref13_Steps K K v0 ([] : List UInt8) 0
def offshootref13_Steps.f : Nat → List ApiStep → Option (List UInt8)
  | 0, _ => none
  | K + 1, v0 => offshootref13_Steps.b (offshootref13_Steps.f K) K v0
def r02_Same.l1 (s_r02_Same : ApiValue → ApiValue → Option Bool) (K : Nat) : Nat → ApiValue → ApiValue → Int → Option Bool
  | 0, _, _, _ => none
  | kl1 + 1, y2, y1, v5 => (if (decide (v5 < (List.length y1.L : Int))) = true then (if ((0 : Int) ≤ v5 ∧ v5 < (List.length y1.L : Int)) then (if ((0 : Int) ≤ v5 ∧ v5 < (List.length y2.L : Int)) then (Option.bind (s_r02_Same (List.getD y1.L (Int.toNat v5) default) (List.getD y2.L (Int.toNat v5) default)) fun t3 => (if (!t3) = true then some (false) else r02_Same.l1 s_r02_Same K kl1 y2 y1 (IntKind.wrap .i64 (v5 + 1)))) else none) else none) else some (true))
def r02_Same.b (s_r02_Same : ApiValue → ApiValue → Option Bool) (K : Nat) (v0 : ApiValue) (v1 : ApiValue) : Option Bool :=
  (Option.bind (if (((!decide (v0.Kind = v1.Kind)) || (!(v0.B == v1.B))) || (!decide (v0.N = v1.N))) = false then r01_Canon.f v0.F else some default) fun t1 => (Option.bind (if (((!decide (v0.Kind = v1.Kind)) || (!(v0.B == v1.B))) || (!decide (v0.N = v1.N))) = false then r01_Canon.f v1.F else some default) fun t2 => (if ((((((!decide (v0.Kind = v1.Kind)) || (!(v0.B == v1.B))) || (!decide (v0.N = v1.N))) || (!decide (t1 = t2))) || (!decide (v0.S = v1.S))) || (!decide ((List.length v0.L : Int) = (List.length v1.L : Int)))) = true then some (false) else r02_Same.l1 s_r02_Same K K v1 v0 0)))
def r02_Same.f : Nat → ApiValue → ApiValue → Option Bool
  | 0, _, _ => none
  | K + 1, v0, v1 => r02_Same.b (r02_Same.f K) K v0 v1
def r12_SamePred.l2 (s_r12_SamePred : ApiPred → ApiPred → Option Bool) (s_l1 : ApiPred → ApiPred → Int → Option Bool) (K : Nat) (y1 : ApiPred) (y2 : ApiPred) : Nat → Int → Option Bool
  | 0, _ => none
  | kl2 + 1, v6 => (if (decide (v6 < (List.length y1.Kids : Int))) = true then (if ((0 : Int) ≤ v6 ∧ v6 < (List.length y1.Kids : Int)) then (if ((0 : Int) ≤ v6 ∧ v6 < (List.length y2.Kids : Int)) then (Option.bind (s_r12_SamePred (List.getD y1.Kids (Int.toNat v6) default) (List.getD y2.Kids (Int.toNat v6) default)) fun t2 => (if (!t2) = true then some (false) else r12_SamePred.l2 s_r12_SamePred s_l1 K y1 y2 kl2 (IntKind.wrap .i64 (v6 + 1)))) else none) else none) else some (true))
def r12_SamePred.l1 (s_r12_SamePred : ApiPred → ApiPred → Option Bool) (K : Nat) : Nat → ApiPred → ApiPred → Int → Option Bool
  | 0, _, _, _ => none
  | kl1 + 1, y2, y1, v5 => (if (decide (v5 < (List.length y1.L : Int))) = true then (if ((0 : Int) ≤ v5 ∧ v5 < (List.length y1.L : Int)) then (if ((0 : Int) ≤ v5 ∧ v5 < (List.length y2.L : Int)) then (Option.bind (r02_Same.f K (List.getD y1.L (Int.toNat v5) default) (List.getD y2.L (Int.toNat v5) default)) fun t1 => (if (!t1) = true then some (false) else r12_SamePred.l1 s_r12_SamePred K kl1 y2 y1 (IntKind.wrap .i64 (v5 + 1)))) else none) else none) else r12_SamePred.l2 s_r12_SamePred (r12_SamePred.l1 s_r12_SamePred K kl1) K y1 y2 K 0)
def r12_SamePred.b (s_r12_SamePred : ApiPred → ApiPred → Option Bool) (K : Nat) (v0 : ApiPred) (v1 : ApiPred) : Option Bool :=
  (if (((!decide (v0.Op = v1.Op)) || (!decide ((List.length v0.L : Int) = (List.length v1.L : Int)))) || (!decide ((List.length v0.Kids : Int) = (List.length v1.Kids : Int)))) = true then some (false) else r12_SamePred.l1 s_r12_SamePred K K v1 v0 0)
def r12_SamePred.f : Nat → ApiPred → ApiPred → Option Bool
  | 0, _, _ => none
  | K + 1, v0, v1 => r12_SamePred.b (r12_SamePred.f K) K v0 v1
def offshootref15_sameIns.l4 (s_l1 : ApiIns → ApiIns → Int → Option Bool) (s_l2 : Int → Option Bool) (s_l3 : Int → Option Bool) (K : Nat) (y1 : ApiIns) (y2 : ApiIns) : Nat → Int → Option Bool
  | 0, _ => none
  | kl4 + 1, v8 => (if (decide (v8 < (List.length y1.Kids : Int))) = true then (if ((0 : Int) ≤ v8 ∧ v8 < (List.length y1.Kids : Int)) then (if ((0 : Int) ≤ v8 ∧ v8 < (List.length y2.Kids : Int)) then (if (!decide ((List.getD y1.Kids (Int.toNat v8) default) = (List.getD y2.Kids (Int.toNat v8) default))) = true then some (false) else offshootref15_sameIns.l4 s_l1 s_l2 s_l3 K y1 y2 kl4 (IntKind.wrap .i64 (v8 + 1))) else none) else none) else some (true))
def offshootref15_sameIns.l3 (s_l1 : ApiIns → ApiIns → Int → Option Bool) (s_l2 : Int → Option Bool) (K : Nat) (y1 : ApiIns) (y2 : ApiIns) : Nat → Int → Option Bool
  | 0, _ => none
  | kl3 + 1, v7 => (if (decide (v7 < (List.length y1.V : Int))) = true then (if ((0 : Int) ≤ v7 ∧ v7 < (List.length y1.V : Int)) then (if ((0 : Int) ≤ v7 ∧ v7 < (List.length y2.V : Int)) then (Option.bind (r02_Same.f K (List.getD y1.V (Int.toNat v7) default) (List.getD y2.V (Int.toNat v7) default)) fun t2 => (if (!t2) = true then some (false) else offshootref15_sameIns.l3 s_l1 s_l2 K y1 y2 kl3 (IntKind.wrap .i64 (v7 + 1)))) else none) else none) else offshootref15_sameIns.l4 s_l1 s_l2 (offshootref15_sameIns.l3 s_l1 s_l2 K y1 y2 kl3) K y1 y2 K 0)
def offshootref15_sameIns.l2 (s_l1 : ApiIns → ApiIns → Int → Option Bool) (K : Nat) (y1 : ApiIns) (y2 : ApiIns) : Nat → Int → Option Bool
  | 0, _ => none
  | kl2 + 1, v6 => (if (decide (v6 < (List.length y1.N : Int))) = true then (if ((0 : Int) ≤ v6 ∧ v6 < (List.length y1.N : Int)) then (if ((0 : Int) ≤ v6 ∧ v6 < (List.length y2.N : Int)) then (if (!decide ((List.getD y1.N (Int.toNat v6) default) = (List.getD y2.N (Int.toNat v6) default))) = true then some (false) else offshootref15_sameIns.l2 s_l1 K y1 y2 kl2 (IntKind.wrap .i64 (v6 + 1))) else none) else none) else offshootref15_sameIns.l3 s_l1 (offshootref15_sameIns.l2 s_l1 K y1 y2 kl2) K y1 y2 K 0)
def offshootref15_sameIns.l1 (K : Nat) : Nat → ApiIns → ApiIns → Int → Option Bool
  | 0, _, _, _ => none
  | kl1 + 1, y2, y1, v5 => (if (decide (v5 < (List.length y1.S : Int))) = true then (if ((0 : Int) ≤ v5 ∧ v5 < (List.length y1.S : Int)) then (if ((0 : Int) ≤ v5 ∧ v5 < (List.length y2.S : Int)) then (if (!decide ((List.getD y1.S (Int.toNat v5) default) = (List.getD y2.S (Int.toNat v5) default))) = true then some (false) else offshootref15_sameIns.l1 K kl1 y2 y1 (IntKind.wrap .i64 (v5 + 1))) else none) else none) else offshootref15_sameIns.l2 (offshootref15_sameIns.l1 K kl1) K y1 y2 K 0)
def offshootref15_sameIns.f (K : Nat) (v0 : ApiIns) (v1 : ApiIns) : Option Bool :=
  (Option.bind (if ((((((!decide (v0.Op = v1.Op)) || (!(v0.Flag == v1.Flag))) || (!decide ((List.length v0.S : Int) = (List.length v1.S : Int)))) || (!decide ((List.length v0.N : Int) = (List.length v1.N : Int)))) || (!decide ((List.length v0.V : Int) = (List.length v1.V : Int)))) || (!decide ((List.length v0.Kids : Int) = (List.length v1.Kids : Int)))) = false then r12_SamePred.f K v0.P v1.P else some default) fun t1 => (if (((((((!decide (v0.Op = v1.Op)) || (!(v0.Flag == v1.Flag))) || (!decide ((List.length v0.S : Int) = (List.length v1.S : Int)))) || (!decide ((List.length v0.N : Int) = (List.length v1.N : Int)))) || (!decide ((List.length v0.V : Int) = (List.length v1.V : Int)))) || (!decide ((List.length v0.Kids : Int) = (List.length v1.Kids : Int)))) || (!t1)) = true then some (false) else offshootref15_sameIns.l1 K K v1 v0 0))
def offshootref15_Same.l2 (s_l1 : ApiProg → ApiProg → Int → Option Bool) (K : Nat) (y1 : ApiProg) (y2 : ApiProg) : Nat → Int → Int → Option Bool
  | 0, _, _ => none
  | kl2 + 1, v5, v6 => (if ((0 : Int) ≤ v5 ∧ v5 < (List.length y1.Bodies : Int)) then (if (decide (v6 < (List.length (List.getD y1.Bodies (Int.toNat v5) default) : Int))) = true then (if ((0 : Int) ≤ v5 ∧ v5 < (List.length y1.Bodies : Int)) then (if ((0 : Int) ≤ v6 ∧ v6 < (List.length (List.getD y1.Bodies (Int.toNat v5) default) : Int)) then (if ((0 : Int) ≤ v5 ∧ v5 < (List.length y2.Bodies : Int)) then (if ((0 : Int) ≤ v6 ∧ v6 < (List.length (List.getD y2.Bodies (Int.toNat v5) default) : Int)) then (Option.bind (offshootref15_sameIns.f K (List.getD (List.getD y1.Bodies (Int.toNat v5) default) (Int.toNat v6) default) (List.getD (List.getD y2.Bodies (Int.toNat v5) default) (Int.toNat v6) default)) fun t1 => (if (!t1) = true then some (false) else offshootref15_Same.l2 s_l1 K y1 y2 kl2 v5 (IntKind.wrap .i64 (v6 + 1)))) else none) else none) else none) else none) else s_l1 y2 y1 (IntKind.wrap .i64 (v5 + 1))) else none)
def offshootref15_Same.l1 (K : Nat) : Nat → ApiProg → ApiProg → Int → Option Bool
  | 0, _, _, _ => none
  | kl1 + 1, y2, y1, v5 => (if (decide (v5 < (List.length y1.Bodies : Int))) = true then (if ((0 : Int) ≤ v5 ∧ v5 < (List.length y1.Bodies : Int)) then (if ((0 : Int) ≤ v5 ∧ v5 < (List.length y2.Bodies : Int)) then (if (!decide ((List.length (List.getD y1.Bodies (Int.toNat v5) default) : Int) = (List.length (List.getD y2.Bodies (Int.toNat v5) default) : Int))) = true then some (false) else offshootref15_Same.l2 (offshootref15_Same.l1 K kl1) K y1 y2 K v5 0) else none) else none) else some (true))
def offshootref15_Same.f (K : Nat) (v0 : ApiProg) (v1 : ApiProg) : Option Bool :=
  (if (!decide ((List.length v0.Bodies : Int) = (List.length v1.Bodies : Int))) = true then some (false) else offshootref15_Same.l1 K K v1 v0 0)
def w15_CodePrints.f (K : Nat) (v0 : List UInt8) : Option Bool :=
  (Option.bind (r12_Parse.f K v0) fun t1 => (Option.bind (w15_awake.f K) fun t2 => (if ((!t2) || (!decide (t1.2.2 = 0))) = true then (Option.bind (w15_awake.f K) fun t3 => some (t3)) else (Option.bind (offshootref13_Steps.f K t1.1) fun t4 => (if (List.length ([103, 46] : List UInt8) : Int) + List.length t4 ≤ 9223372036854775807 then (Option.bind (r12_Parse.f K (([103, 46] : List UInt8) ++ t4)) fun t5 => (Option.bind (code_Compile.f K t1.1) fun t6 => (Option.bind (code_Compile.f K t5.1) fun t7 => (Option.bind (if (decide (t6.2 = t7.2)) = true ∧ (!decide (t5.2.2 = 0)) = false then offshootref15_Same.f K t6.1 t7.1 else some default) fun t8 => some (((!decide (t5.2.2 = 0)) || ((decide (t6.2 = t7.2)) && t8))))))) else none)))))
end Go.Proofs.Ytbjbgodcenopnaa
namespace Go.Proofs.Ytbjbgodcenopnaa
set_option linter.unusedVariables false
theorem val_Copy.nil (s : ApiValue → Option ApiValue) (K : Nat) (v0 : ApiValue) (r : ApiValue) (hl : r_ApiValue_cells v0.L = [])
    (h : (if ((0 : Int) ≤ (List.length v0.L : Int) ∧ ((List.length v0.L : Int) : Int) ≤ 1000000000000) then val_Copy.l1 s K K (List.replicate (Int.toNat (List.length v0.L : Int)) (default : ApiValue)) v0 v0.L (List.length v0.L : Int) 0 else none) = some r) :
    val_Copy.j1 s K v0 = some r := by
  obtain ⟨k, b, n, f, t, l⟩ := v0
  cases l with
  | cons x q => simp [r_ApiValue_cells] at hl
  | nil =>
    rw [if_pos (by simp)] at h
    cases K with
    | zero => simp [val_Copy.l1] at h
    | succ K =>
      rw [val_Copy.l1, if_neg (by simp)] at h
      simpa [val_Copy.j1] using h
end Go.Proofs.Ytbjbgodcenopnaa
namespace Go.Proofs.Ytbjbgodcenopnaa
open FW _root_.Go.Proofs.Try
set_option linter.unusedVariables false
set_option maxRecDepth 20000
set_option maxHeartbeats 10000000
theorem r11_digit.ok  (v0 : Int) (r : Int) (h : r11_digit.f v0 = some r) :
  Ok prog 72 [.lit (.int .u8 v0)] (.lit (.int .i64 r)) := by
 refine enter (xs := [.lit (.int .u8 v0)]) func72 rfl ntmps72 rfl ?_
 intro M w0 a hk
 unfold r11_digit.f at h
 refine rg hk fun _ q1=>gA<|ge q1 fun a w hk=>?_
 refine wseq fun _ q2 => ?_
 refine rg hk fun _ q3=>gM<|gP (p_geq · h0 rfl rfl)<|gM<|gm<|fun a w hk=>?_
 refine lg hk rfl rfl rfl (fun hc => (f_pure (p_leq hk.kn hc rfl rfl))) fun a w hk=>?_
 refine go hk<|gN<|ge q3 fun a w hk=>wc hk h (fun h hb=>?_) fun h hb=>?_
 ·refine rg hk fun _ q4=>gM<|gP (p_conv underlying5 underlying3 · h0 rfl)<|gP (p_sub · h0 rfl rfl)<|gA<|ge q4 fun a w hk=>?_
  refine wp_ret ?_
  obtain rfl := Option.some.inj h
  exact fret1 hk rfl rfl
 refine wp_skip ?_
 refine q2 _ _ ?_
 refine wseq fun _ q5 => ?_
 refine rg hk fun _ q6=>gM<|gP (p_geq · h0 rfl rfl)<|gM<|gm<|fun a w hk=>?_
 refine lg hk rfl rfl rfl (fun hc => (f_pure (p_leq hk.kn hc rfl rfl))) fun a w hk=>?_
 refine go hk<|gN<|ge q6 fun a w hk=>wc hk h (fun h hb=>?_) fun h hb=>?_
 ·refine rg hk fun _ q7=>gM<|gP (p_conv underlying5 underlying3 · h0 rfl)<|gP (p_sub · h0 rfl rfl)<|gD<|gA<|ge q7 fun a w hk=>?_
  refine wp_ret ?_
  obtain rfl := Option.some.inj h
  exact fret1 hk rfl rfl
 refine wp_skip ?_
 refine q5 _ _ ?_
 refine rg hk fun _ q8=>gA<|ge q8 fun a w hk=>?_
 refine wp_ret ?_
 obtain rfl := Option.some.inj h
 exact fret1 hk rfl rfl
theorem r11_Quoted.ok (K : Nat) (v0 : List UInt8) (r : List UInt8 × Int) (h : r11_Quoted.f K v0 = some r) :
  Ok prog 71 [.lit (.string (B v0))] (.tup [.lit (.string (B r.1)), .lit (.int .i64 r.2)]) := by
 refine enter (xs := [.lit (.string (B v0))]) func71 rfl ntmps71 rfl ?_
 intro M w0 a hk
 unfold r11_Quoted.f at h
 refine rg hk fun _ q1=>gA<|gA<|ge q1 fun a w hk=>?_
 refine wreg fun _ q2 => ?_
 refine l_buildSlice0 (f := c_u8) hk rfl rfl underlying75 rfl (fun _ => rfl) ?_; clear hk; intro bx1 a w hk
 refine go hk<|gA<|ge q2 fun a w hk=>?_
 refine wseq fun _ q3 => ?_
 refine rg hk fun _ q4=>gM<|gS<|gM<|gm<|fun a w hk=>?_
 obtain ⟨hc1, h⟩ := chk h
 refine lg hk rfl rfl rfl (fun hc => (f_pure (p_index underlying9 hk.kn hc rfl rfl hc1))) fun a w hk=>?_
 refine lg hk rfl rfl rfl (fun hc => (f_pure (p_neq hk.kn hc rfl rfl))) fun a w hk=>?_
 refine go hk<|gR<|ge q4 fun a w hk=>wc hk h (fun h hb=>?_) fun h hb=>?_
 ·refine rg hk fun _ q5=>gA<|gA<|ge q5 fun a w hk=>?_
  refine wp_ret ?_
  obtain rfl := Option.some.inj h
  exact fret2 hk rfl rfl rfl
 refine wp_skip ?_
 refine q3 _ _ ?_
 refine wseq fun _ q6 => ?_
 refine rg hk fun _ q7=>gA<|ge q7 fun a w hk=>?_
 refine wp_block ?_
 refine wloop (T := Nat × List Int × List UInt8 × Int × Option Addr × Nat) (fun x a w => match x with | (kl1, l1, v0, v5, xd1, xc1) => S M w0 a w 116 [orow xd1 xc1 5 1 c_u8 l1] [(0, [], .lit (.string (B v0))), (4, [], .lit (.slice xd1 (List.length l1) xc1)), (5, [], .lit (.int .i64 v5))] ∧ r11_Quoted.l1 K kl1 l1 v0 v5 = some r) (fun x => x.1) (K, ([] : List Int), v0, 1, (some ⟨bx1, 0, none⟩), 0) ⟨hk.sub ⟨rfl, rfl, rfl, trivial⟩, h⟩ ?_
 clear hk h
 rintro ⟨kl1, l1, v0, v5, xd1, xc1⟩ a w ⟨hk, h⟩ K' q8
 cases kl1 with
 | zero => simp [r11_Quoted.l1] at h
 | succ kl1 =>
 rw [r11_Quoted.l1.eq_2] at h
 refine wseq fun _ q9 => ?_
 refine rg hk fun _ q10=>gM<|gM<|gP (p_slen underlying9 · h0 rfl)<|gL<|ge q10 fun a w hk=>wc hk h (fun h hb=>?_) fun h hb=>?_
 ·refine wp_skip ?_
  refine q9 _ _ ?_
  refine wp_block ?_
  refine rg hk fun _ q11=>gM<|gM<|fun a w hk=>?_
  obtain ⟨hc2, h⟩ := chk h
  refine go hk<|gP (p_index underlying9 · h0 rfl rfl hc2)<|gA<|ge q11 fun a w hk=>?_
  refine wseq fun _ q12 => ?_
  refine rg hk fun _ q13=>gM<|gE<|ge q13 fun a w hk=>wc hk h (fun h hb=>?_) fun h hb=>?_
  ·refine rg hk fun _ q14=>gM<|fun a w hk=>?_
   refine lf (y := .lit (.string (B (toB l1)))) hk (f_toBown (f := c_u8) rfl hk h0 (j := 0) rfl rfl underlying75 underlying5 underlying9) fun a w hk=>?_
   refine go hk<|gM<|gD<|gA<|gA<|ge q14 fun a w hk=>?_
   refine wp_ret ?_
   obtain rfl := Option.some.inj h
   exact fret2 hk rfl rfl rfl
  refine wp_skip ?_
  refine q12 _ _ ?_
  refine wseq fun _ q15 => ?_
  refine rg hk fun _ q16=>gM<|gL<|gM<|gm<|fun a w hk=>?_
  refine lg hk rfl rfl rfl (fun hc => (f_pure (p_gtr hk.kn hc rfl rfl))) fun a w hk=>?_
  refine go hk<|gR<|ge q16 fun a w hk=>wc hk h (fun h hb=>?_) fun h hb=>?_
  ·refine rg hk fun _ q17=>gA<|gA<|ge q17 fun a w hk=>?_
   refine wp_ret ?_
   obtain rfl := Option.some.inj h
   exact fret2 hk rfl rfl rfl
  refine wp_skip ?_
  refine q15 _ _ ?_
  refine wseq fun _ q18 => ?_
  refine rg hk fun _ q19=>gM<|gP (p_neq · h0 rfl rfl)<|ge q19 fun a w hk=>wc hk h (fun h hb=>?_) fun h hb=>?_
  ·refine rg hk fun _ q20=>gM<|gM<|fun a w hk=>?_
   refine l_buildSlice (f := c_u8) (l := ([(bt v0 v5)] : List Int)) hk rfl rfl rfl underlying75 rfl rfl rfl rfl (fun _ => rfl) rfl ?_; clear hk; intro bx2 a w hk
   obtain ⟨hc3, h⟩ := chk h
   refine l_append (l2 := ([(bt v0 v5)] : List Int)) (l3 := (l1 ++ ([(bt v0 v5)] : List Int))) (I' := fun ad1 cap1 => [orow (some ⟨bx2, 0, none⟩) 1 5 1 c_u8 ([(bt v0 v5)] : List Int), orow ad1 cap1 5 1 c_u8 (l1 ++ ([(bt v0 v5)] : List Int))]) (j := 1) hk rfl rfl rfl rfl (own_src hk (j := 0) rfl rfl (fun _ => rfl) underlying75) underlying75 (by kernel_rfl) hc3 rfl (fun _ _ => rfl) ?_; clear hk; intro ad1 cap1 a w hk
   replace hk := S.dropI (I' := [orow ad1 cap1 5 1 c_u8 (l1 ++ ([(bt v0 v5)] : List Int))]) hk 0 rfl
   refine go hk<|gM<|gD<|gA<|gA<|ge q20 fun a w hk=>?_
   refine wp_exit ?_; (repeat first | refine te ?_ | refine be rfl ?_); refine bx ?_
   exact q8 (kl1, (l1 ++ ([(bt v0 v5)] : List Int)), v0, (IntKind.wrap .i64 (v5 + 1)), ad1, cap1) _ _ (Nat.lt_succ_self _) ⟨hk.sub ⟨rfl, rfl, rfl, trivial⟩, h⟩
  refine wp_skip ?_
  refine q18 _ _ ?_
  refine wseq fun _ q21 => ?_
  refine rg hk fun _ q22=>gM<|gD<|gM<|gP (p_slen underlying9 · h0 rfl)<|gL<|gM<|gm<|fun a w hk=>?_
  refine go hk<|gm<|fun a w hk=>?_
  refine lg hk rfl rfl rfl (fun hc => (f_pure (p_add hk.kn hc rfl rfl))) fun a w hk=>?_
  obtain ⟨hc4, h⟩ := chk h
  refine lg hk rfl rfl rfl (fun hc => (f_pure (p_index underlying9 hk.kn hc rfl rfl hc4))) fun a w hk=>?_
  refine lg hk rfl rfl rfl (fun hc => (f_pure (p_eql hk.kn hc rfl rfl))) fun a w hk=>?_
  refine go hk<|gm<|fun a w hk=>?_
  refine go hk<|gm<|fun a w hk=>?_
  refine go hk<|gm<|fun a w hk=>?_
  refine lg hk rfl rfl rfl (fun hc => (f_pure (p_add hk.kn hc rfl rfl))) fun a w hk=>?_
  obtain ⟨hc5, h⟩ := chk h
  refine lg hk rfl rfl rfl (fun hc => (f_pure (p_index underlying9 hk.kn hc rfl rfl hc5))) fun a w hk=>?_
  refine lg hk rfl rfl rfl (fun hc => (f_pure (p_eql hk.kn hc rfl rfl))) fun a w hk=>?_
  refine lg hk rfl rfl rfl (fun hc => (f_pure (p_pick_or hk.kn hc rfl rfl))) fun a w hk=>?_
  refine go hk<|gN<|ge q22 fun a w hk=>wc hk h (fun h hb=>?_) fun h hb=>?_
  ·refine rg hk fun _ q23=>gM<|gM<|gM<|gD<|fun a w hk=>?_
   obtain ⟨hc6, h⟩ := chk h
   refine go hk<|gP (p_index underlying9 · h0 rfl rfl hc6)<|fun a w hk=>?_
   refine l_buildSlice (f := c_u8) (l := ([(bt v0 (IntKind.wrap .i64 (v5 + 1)))] : List Int)) hk rfl rfl rfl underlying75 rfl rfl rfl rfl (fun _ => rfl) rfl ?_; clear hk; intro bx3 a w hk
   obtain ⟨hc7, h⟩ := chk h
   refine l_append (l2 := ([(bt v0 (IntKind.wrap .i64 (v5 + 1)))] : List Int)) (l3 := (l1 ++ ([(bt v0 (IntKind.wrap .i64 (v5 + 1)))] : List Int))) (I' := fun ad2 cap2 => [orow (some ⟨bx3, 0, none⟩) 1 5 1 c_u8 ([(bt v0 (IntKind.wrap .i64 (v5 + 1)))] : List Int), orow ad2 cap2 5 1 c_u8 (l1 ++ ([(bt v0 (IntKind.wrap .i64 (v5 + 1)))] : List Int))]) (j := 1) hk rfl rfl rfl rfl (own_src hk (j := 0) rfl rfl (fun _ => rfl) underlying75) underlying75 (by kernel_rfl) hc7 rfl (fun _ _ => rfl) ?_; clear hk; intro ad2 cap2 a w hk
   replace hk := S.dropI (I' := [orow ad2 cap2 5 1 c_u8 (l1 ++ ([(bt v0 (IntKind.wrap .i64 (v5 + 1)))] : List Int))]) hk 0 rfl
   refine go hk<|gM<|gD<|gA<|gA<|ge q23 fun a w hk=>?_
   refine wp_exit ?_; (repeat first | refine te ?_ | refine be rfl ?_); refine bx ?_
   exact q8 (kl1, (l1 ++ ([(bt v0 (IntKind.wrap .i64 (v5 + 1)))] : List Int)), v0, (IntKind.wrap .i64 (v5 + 2)), ad2, cap2) _ _ (Nat.lt_succ_self _) ⟨hk.sub ⟨rfl, rfl, rfl, trivial⟩, h⟩
  refine wp_skip ?_
  refine q21 _ _ ?_
  refine wseq fun _ q24 => ?_
  refine rg hk fun _ q25=>gM<|gD<|gM<|gP (p_slen underlying9 · h0 rfl)<|gP (p_geq · h0 rfl rfl)<|gM<|gm<|fun a w hk=>?_
  refine go hk<|gm<|fun a w hk=>?_
  refine lg hk rfl rfl rfl (fun hc => (f_pure (p_add hk.kn hc rfl rfl))) fun a w hk=>?_
  obtain ⟨hc8, h⟩ := chk h
  refine lg hk rfl rfl rfl (fun hc => (f_pure (p_index underlying9 hk.kn hc rfl rfl hc8))) fun a w hk=>?_
  refine lg hk rfl rfl rfl (fun hc => (f_pure (p_neq hk.kn hc rfl rfl))) fun a w hk=>?_
  refine go hk<|gR<|gM<|gm<|fun a w hk=>?_
  refine go hk<|gm<|fun a w hk=>?_
  refine lg hk rfl rfl rfl (fun hc => (f_pure (p_add hk.kn hc rfl rfl))) fun a w hk=>?_
  obtain ⟨hc9, h⟩ := chk h
  refine lg hk rfl rfl rfl (fun hc => (f_pure (p_index underlying9 hk.kn hc rfl rfl hc9))) fun a w hk=>?_
  obtain ⟨t1, hr_t1, h⟩ := bndG h
  refine lg (y := .lit (.int .i64 t1)) hk rfl rfl rfl (fun hc => f_call hk hc rfl rfl func72 rfl (by kernel_rfl) (r11_digit.ok (bt v0 (IntKind.wrap .i64 (v5 + 2))) _ (hr_t1 (asm_out (p := ((decide ((List.length v0 : Int) ≤ (IntKind.wrap .i64 (v5 + 3)))) || (!decide ((bt v0 (IntKind.wrap .i64 (v5 + 1))) = 120))) = false) hk.kn hc (fun e0 => e0))))) fun a w hk=>?_
  refine lg hk rfl rfl rfl (fun hc => (f_pure (p_gtr hk.kn hc rfl rfl))) fun a w hk=>?_
  refine go hk<|gR<|gM<|gm<|fun a w hk=>?_
  refine go hk<|gm<|fun a w hk=>?_
  refine lg hk rfl rfl rfl (fun hc => (f_pure (p_add hk.kn hc rfl rfl))) fun a w hk=>?_
  obtain ⟨hc10, h⟩ := chk h
  refine lg hk rfl rfl rfl (fun hc => (f_pure (p_index underlying9 hk.kn hc rfl rfl hc10))) fun a w hk=>?_
  obtain ⟨t2, hr_t2, h⟩ := bndG h
  refine lg (y := .lit (.int .i64 t2)) hk rfl rfl rfl (fun hc => f_call hk hc rfl rfl func72 rfl (by kernel_rfl) (r11_digit.ok (bt v0 (IntKind.wrap .i64 (v5 + 3))) _ (hr_t2 (asm_out (p := (((decide ((List.length v0 : Int) ≤ (IntKind.wrap .i64 (v5 + 3)))) || (!decide ((bt v0 (IntKind.wrap .i64 (v5 + 1))) = 120))) || (decide (15 < t1))) = false) hk.kn hc (fun e0 => e0))))) fun a w hk=>?_
  refine lg hk rfl rfl rfl (fun hc => (f_pure (p_gtr hk.kn hc rfl rfl))) fun a w hk=>?_
  refine go hk<|gR<|ge q25 fun a w hk=>wc hk h (fun h hb=>?_) fun h hb=>?_
  ·refine rg hk fun _ q26=>gA<|gA<|ge q26 fun a w hk=>?_
   refine wp_ret ?_
   obtain rfl := Option.some.inj h
   exact fret2 hk rfl rfl rfl
  refine wp_skip ?_
  refine q24 _ _ ?_
  obtain ⟨hc11, h⟩ := chk h
  obtain ⟨t3, hr_t3, h⟩ := bnd h
  obtain ⟨hc12, h⟩ := chk h
  obtain ⟨t4, hr_t4, h⟩ := bnd h
  obtain ⟨hc13, h⟩ := chk h
  refine wdrawE1 (.next [true, true, true, true, true, true, true, true, true, true, true, true, true, true, false, false, true, true, false, false] 14 [true, true, true, true, true, true, true, true, true, true, true, true, true, true, false, false, true, true, false, false] (.next [true, false, false, false, false, false, false, false, false, false, false, false, false, false, false, false, true, true, false, false] 15 [true, true, true, true, true, true, true, true, true, true, true, true, true, true, true, false, true, true, false, false] (.leaf [false, false, false, false, false, false, false, false, false, false, false, false, false, false, false, false, true, true, true, true]))) [(98, [], .lit (.slice xd1 (List.length l1) xc1)), (99, [], .lit (.string (B v0))), (100, [], .lit (.int .i64 v5)), (101, [], .lit (.int .i64 (IntKind.wrap .i64 (v5 + 2)))), (102, [], .lit (.int .u8 (bt v0 (IntKind.wrap .i64 (v5 + 2))))), (103, [], .lit (.int .i64 t3)), (104, [], .lit (.int .i64 (IntKind.wrap .i64 (16 * t3)))), (105, [], .lit (.string (B v0))), (106, [], .lit (.int .i64 v5)), (107, [], .lit (.int .i64 (IntKind.wrap .i64 (v5 + 3)))), (108, [], .lit (.int .u8 (bt v0 (IntKind.wrap .i64 (v5 + 3))))), (109, [], .lit (.int .i64 t4)), (110, [], .lit (.int .i64 (IntKind.wrap .i64 ((IntKind.wrap .i64 (16 * t3)) + t4)))), (111, [], .lit (.int .u8 (IntKind.wrap .u8 (IntKind.wrap .i64 ((IntKind.wrap .i64 (16 * t3)) + t4))))), (112, [], .agg []), (113, [], .agg []), (114, [], .lit (.int .i64 v5)), (115, [], .lit (.int .i64 (IntKind.wrap .i64 (v5 + 4)))), (4, [], .agg []), (5, [], .agg [])] (by kernel_rfl) (by kernel_rfl) (by kernel_rfl) (by kernel_rfl) hk ?_; clear hk
  refine gnext ?_ rfl rfl rfl rfl rfl ?_
  ·refine gfun (y := .lit (.slice xd1 (List.length l1) xc1)) rfl rfl rfl rfl (fun a w hk => f_move hk h0 rfl) ?_
   refine gfun (y := .lit (.string (B v0))) rfl rfl rfl rfl (fun a w hk => f_move hk h0 rfl) ?_
   refine gfun (y := .lit (.int .i64 v5)) rfl rfl rfl rfl (fun a w hk => f_move hk h0 rfl) ?_
   refine gfun (y := .lit (.int .i64 (IntKind.wrap .i64 (v5 + 2)))) rfl rfl rfl rfl (fun a w hk => (f_pure (p_add hk.kn h0 rfl rfl))) ?_
   refine gfun (y := .lit (.int .u8 (bt v0 (IntKind.wrap .i64 (v5 + 2))))) rfl rfl rfl rfl (fun a w hk => (f_pure (p_index underlying9 hk.kn h0 rfl rfl hc11))) ?_
   refine gfun (y := .lit (.int .i64 t3)) rfl rfl rfl rfl (fun a w hk => f_call hk h0 rfl rfl func72 rfl (by kernel_rfl) (r11_digit.ok (bt v0 (IntKind.wrap .i64 (v5 + 2))) _ hr_t3)) ?_
   refine gfun (y := .lit (.int .i64 (IntKind.wrap .i64 (16 * t3)))) rfl rfl rfl rfl (fun a w hk => (f_pure (p_mul hk.kn h0 rfl rfl))) ?_
   refine gfun (y := .lit (.string (B v0))) rfl rfl rfl rfl (fun a w hk => f_move hk h0 rfl) ?_
   refine gfun (y := .lit (.int .i64 v5)) rfl rfl rfl rfl (fun a w hk => f_move hk h0 rfl) ?_
   refine gfun (y := .lit (.int .i64 (IntKind.wrap .i64 (v5 + 3)))) rfl rfl rfl rfl (fun a w hk => (f_pure (p_add hk.kn h0 rfl rfl))) ?_
   refine gfun (y := .lit (.int .u8 (bt v0 (IntKind.wrap .i64 (v5 + 3))))) rfl rfl rfl rfl (fun a w hk => (f_pure (p_index underlying9 hk.kn h0 rfl rfl hc12))) ?_
   refine gfun (y := .lit (.int .i64 t4)) rfl rfl rfl rfl (fun a w hk => f_call hk h0 rfl rfl func72 rfl (by kernel_rfl) (r11_digit.ok (bt v0 (IntKind.wrap .i64 (v5 + 3))) _ hr_t4)) ?_
   refine gfun (y := .lit (.int .i64 (IntKind.wrap .i64 ((IntKind.wrap .i64 (16 * t3)) + t4)))) rfl rfl rfl rfl (fun a w hk => (f_pure (p_add hk.kn h0 rfl rfl))) ?_
   refine gfun (y := .lit (.int .u8 (IntKind.wrap .u8 (IntKind.wrap .i64 ((IntKind.wrap .i64 (16 * t3)) + t4))))) rfl rfl rfl rfl (fun a w hk => (f_pure (p_conv underlying3 underlying5 hk.kn h0 rfl))) ?_
   refine gskip rfl rfl ?_
   refine gskip rfl rfl ?_
   refine gfun (y := .lit (.int .i64 v5)) rfl rfl rfl rfl (fun a w hk => f_move hk h0 rfl) ?_
   refine gfun (y := .lit (.int .i64 (IntKind.wrap .i64 (v5 + 4)))) rfl rfl rfl rfl (fun a w hk => (f_pure (p_add hk.kn h0 rfl rfl))) ?_
   refine gskip rfl rfl ?_
   refine gskip rfl rfl ?_
   exact gend
  ·intro σD a w opsD QD hk hf hQ hX
   refine l_buildSlice (f := c_u8) (l := ([(IntKind.wrap .u8 (IntKind.wrap .i64 ((IntKind.wrap .i64 (16 * t3)) + t4)))] : List Int)) hk rfl hf rfl underlying75 rfl rfl rfl rfl (fun _ => rfl) rfl ?_; clear hk; intro bx4 a w hk
   refine hQ _ _ a w ?_ hk; clear hk hQ hf hX
   refine ⟨[(98, [], .lit (.slice xd1 (List.length l1) xc1)), (99, [], .lit (.string (B v0))), (100, [], .lit (.int .i64 v5)), (101, [], .lit (.int .i64 (IntKind.wrap .i64 (v5 + 2)))), (102, [], .lit (.int .u8 (bt v0 (IntKind.wrap .i64 (v5 + 2))))), (103, [], .lit (.int .i64 t3)), (104, [], .lit (.int .i64 (IntKind.wrap .i64 (16 * t3)))), (105, [], .lit (.string (B v0))), (106, [], .lit (.int .i64 v5)), (107, [], .lit (.int .i64 (IntKind.wrap .i64 (v5 + 3)))), (108, [], .lit (.int .u8 (bt v0 (IntKind.wrap .i64 (v5 + 3))))), (109, [], .lit (.int .i64 t4)), (110, [], .lit (.int .i64 (IntKind.wrap .i64 ((IntKind.wrap .i64 (16 * t3)) + t4)))), (111, [], .lit (.int .u8 (IntKind.wrap .u8 (IntKind.wrap .i64 ((IntKind.wrap .i64 (16 * t3)) + t4))))), (112, [], .lit (.slice (some ⟨bx4, 0, none⟩) (List.length ([(IntKind.wrap .u8 (IntKind.wrap .i64 ((IntKind.wrap .i64 (16 * t3)) + t4)))] : List Int)) 1)), (113, [], .agg []), (114, [], .lit (.int .i64 v5)), (115, [], .lit (.int .i64 (IntKind.wrap .i64 (v5 + 4)))), (4, [], .agg []), (5, [], .agg [])], And.intro rfl (And.intro rfl (And.intro rfl (And.intro rfl (And.intro rfl (And.intro rfl (And.intro rfl (And.intro rfl (And.intro rfl (And.intro rfl (And.intro rfl (And.intro rfl (And.intro rfl (And.intro rfl (And.intro rfl (And.intro rfl (trivial)))))))))))))))), rfl, ?_⟩
   refine gnext ?_ rfl rfl rfl rfl rfl ?_
   ·refine gfun (y := .lit (.slice xd1 (List.length l1) xc1)) rfl rfl rfl rfl (fun a w hk => f_move hk h0 rfl) ?_
    refine gskip rfl rfl ?_
    refine gskip rfl rfl ?_
    refine gskip rfl rfl ?_
    refine gskip rfl rfl ?_
    refine gskip rfl rfl ?_
    refine gskip rfl rfl ?_
    refine gskip rfl rfl ?_
    refine gskip rfl rfl ?_
    refine gskip rfl rfl ?_
    refine gskip rfl rfl ?_
    refine gskip rfl rfl ?_
    refine gskip rfl rfl ?_
    refine gskip rfl rfl ?_
    refine gskip rfl rfl ?_
    refine gskip rfl rfl ?_
    refine gfun (y := .lit (.int .i64 v5)) rfl rfl rfl rfl (fun a w hk => f_move hk h0 rfl) ?_
    refine gfun (y := .lit (.int .i64 (IntKind.wrap .i64 (v5 + 4)))) rfl rfl rfl rfl (fun a w hk => (f_pure (p_add hk.kn h0 rfl rfl))) ?_
    refine gskip rfl rfl ?_
    refine gskip rfl rfl ?_
    exact gend
   ·intro σD a w opsD QD hk hf hQ hX
    refine l_append (l2 := ([(IntKind.wrap .u8 (IntKind.wrap .i64 ((IntKind.wrap .i64 (16 * t3)) + t4)))] : List Int)) (l3 := (l1 ++ ([(IntKind.wrap .u8 (IntKind.wrap .i64 ((IntKind.wrap .i64 (16 * t3)) + t4)))] : List Int))) (I' := fun ad3 cap3 => [orow (some ⟨bx4, 0, none⟩) 1 5 1 c_u8 ([(IntKind.wrap .u8 (IntKind.wrap .i64 ((IntKind.wrap .i64 (16 * t3)) + t4)))] : List Int), orow ad3 cap3 5 1 c_u8 (l1 ++ ([(IntKind.wrap .u8 (IntKind.wrap .i64 ((IntKind.wrap .i64 (16 * t3)) + t4)))] : List Int))]) (j := 1) hk rfl rfl hf rfl (own_src hk (j := 0) rfl rfl (fun _ => rfl) underlying75) underlying75 (by kernel_rfl) hc13 rfl (fun _ _ => rfl) ?_; clear hk; intro ad3 cap3 a w hk
    replace hk := S.dropI (I' := [orow ad3 cap3 5 1 c_u8 (l1 ++ ([(IntKind.wrap .u8 (IntKind.wrap .i64 ((IntKind.wrap .i64 (16 * t3)) + t4)))] : List Int))]) hk 0 rfl
    refine hQ _ _ a w ?_ hk; clear hk hQ hf hX
    refine ⟨[(98, [], .lit (.slice xd1 (List.length l1) xc1)), (99, [], .lit (.string (B v0))), (100, [], .lit (.int .i64 v5)), (101, [], .lit (.int .i64 (IntKind.wrap .i64 (v5 + 2)))), (102, [], .lit (.int .u8 (bt v0 (IntKind.wrap .i64 (v5 + 2))))), (103, [], .lit (.int .i64 t3)), (104, [], .lit (.int .i64 (IntKind.wrap .i64 (16 * t3)))), (105, [], .lit (.string (B v0))), (106, [], .lit (.int .i64 v5)), (107, [], .lit (.int .i64 (IntKind.wrap .i64 (v5 + 3)))), (108, [], .lit (.int .u8 (bt v0 (IntKind.wrap .i64 (v5 + 3))))), (109, [], .lit (.int .i64 t4)), (110, [], .lit (.int .i64 (IntKind.wrap .i64 ((IntKind.wrap .i64 (16 * t3)) + t4)))), (111, [], .lit (.int .u8 (IntKind.wrap .u8 (IntKind.wrap .i64 ((IntKind.wrap .i64 (16 * t3)) + t4))))), (112, [], .lit (.slice (some ⟨bx4, 0, none⟩) (List.length ([(IntKind.wrap .u8 (IntKind.wrap .i64 ((IntKind.wrap .i64 (16 * t3)) + t4)))] : List Int)) 1)), (113, [], .lit (.slice ad3 (List.length (l1 ++ ([(IntKind.wrap .u8 (IntKind.wrap .i64 ((IntKind.wrap .i64 (16 * t3)) + t4)))] : List Int))) cap3)), (114, [], .lit (.int .i64 v5)), (115, [], .lit (.int .i64 (IntKind.wrap .i64 (v5 + 4)))), (4, [], .lit (.slice ad3 (List.length (l1 ++ ([(IntKind.wrap .u8 (IntKind.wrap .i64 ((IntKind.wrap .i64 (16 * t3)) + t4)))] : List Int))) cap3)), (5, [], .lit (.int .i64 (IntKind.wrap .i64 (v5 + 4))))], And.intro rfl (And.intro rfl (And.intro rfl (And.intro rfl (And.intro rfl (And.intro rfl (And.intro rfl (And.intro rfl (And.intro rfl (And.intro rfl (And.intro rfl (And.intro rfl (And.intro rfl (And.intro rfl (And.intro rfl (And.intro rfl (And.intro rfl (trivial))))))))))))))))), rfl, ?_⟩
    refine glast ?_ ?_
    ·refine gskip rfl rfl ?_
     refine gskip rfl rfl ?_
     refine gskip rfl rfl ?_
     refine gskip rfl rfl ?_
     refine gskip rfl rfl ?_
     refine gskip rfl rfl ?_
     refine gskip rfl rfl ?_
     refine gskip rfl rfl ?_
     refine gskip rfl rfl ?_
     refine gskip rfl rfl ?_
     refine gskip rfl rfl ?_
     refine gskip rfl rfl ?_
     refine gskip rfl rfl ?_
     refine gskip rfl rfl ?_
     refine gskip rfl rfl ?_
     refine gskip rfl rfl ?_
     refine gfun (y := .lit (.int .i64 v5)) rfl rfl rfl rfl (fun a w hk => f_move hk h0 rfl) ?_
     refine gfun (y := .lit (.int .i64 (IntKind.wrap .i64 (v5 + 4)))) rfl rfl rfl rfl (fun a w hk => (f_pure (p_add hk.kn h0 rfl rfl))) ?_
     refine gfun (y := .lit (.slice ad3 (List.length (l1 ++ ([(IntKind.wrap .u8 (IntKind.wrap .i64 ((IntKind.wrap .i64 (16 * t3)) + t4)))] : List Int))) cap3)) rfl rfl rfl rfl (fun a w hk => f_assign hk h0 rfl) ?_
     refine gfun (y := .lit (.int .i64 (IntKind.wrap .i64 (v5 + 4)))) rfl rfl rfl rfl (fun a w hk => f_assign hk h0 rfl) ?_
     exact gend
    ·intro a w hk; simp only [stD, cond_true] at hk
     exact q8 (kl1, (l1 ++ ([(IntKind.wrap .u8 (IntKind.wrap .i64 ((IntKind.wrap .i64 (16 * t3)) + t4)))] : List Int)), v0, (IntKind.wrap .i64 (v5 + 4)), ad3, cap3) _ _ (Nat.lt_succ_self _) ⟨hk.sub ⟨rfl, rfl, rfl, trivial⟩, h⟩
 refine wp_exit ?_; (repeat first | refine te ?_ | refine be rfl ?_); refine bx ?_
 refine q6 _ _ ?_
 refine rg hk fun _ q28=>gA<|gA<|ge q28 fun a w hk=>?_
 refine wp_ret ?_
 obtain rfl := Option.some.inj h
 exact fret2 hk rfl rfl rfl
theorem r01_Canon.ok  (v0 : Nat) (r : Int) (h : r01_Canon.f v0 = some r) :
  Ok prog 35 [.lit (.float .f64 v0)] (.lit (.int .u64 r)) := by
 refine enter (xs := [.lit (.float .f64 v0)]) func35 rfl ntmps35 rfl ?_
 intro M w0 a hk
 unfold r01_Canon.f at h
 refine rg hk fun _ q1=>gA<|ge q1 fun a w hk=>?_
 refine wseq fun _ q2 => ?_
 refine rg hk fun _ q3=>gM<|gM<|gP (p_fneq · h0 rfl rfl)<|ge q3 fun a w hk=>wc hk h (fun h hb=>?_) fun h hb=>?_
 ·refine rg hk fun _ q4=>gA<|ge q4 fun a w hk=>?_
  refine wp_ret ?_
  obtain rfl := Option.some.inj h
  exact fret1 hk rfl rfl
 refine wp_skip ?_
 refine q2 _ _ ?_
 refine rg hk fun _ q5=>gM<|fun a w hk=>?_
 refine lf (y := .lit (.int .u64 ((v0 : Nat) : Int))) hk (f_bits hk h0 rfl rfl func57 (by kernel_rfl) (by kernel_rfl) (by kernel_rfl) (by kernel_rfl)) fun a w hk=>?_
 refine go hk<|gA<|ge q5 fun a w hk=>?_
 refine wp_ret ?_
 obtain rfl := Option.some.inj h
 exact fret1 hk rfl rfl
end Go.Proofs.Ytbjbgodcenopnaa
namespace Go.Proofs.Ytbjbgodcenopnaa
open FW _root_.Go.Proofs.Try
set_option linter.unusedVariables false
set_option maxRecDepth 20000
set_option maxHeartbeats 10000000
theorem r11_Int.ok (K : Nat) (v0 : List UInt8) (r : Int × Bool) (h : r11_Int.f K v0 = some r) :
  Ok prog 74 [.lit (.string (B v0))] (.tup [.lit (.int .i64 r.1), .lit (.bool r.2)]) := by
 refine enter (xs := [.lit (.string (B v0))]) func74 rfl ntmps74 rfl ?_
 intro M w0 a hk
 unfold r11_Int.f at h
 refine rg hk fun _ q1=>gA<|gA<|ge q1 fun a w hk=>?_
 refine rg hk fun _ q2=>gM<|gP (p_sneq · h0 rfl rfl)<|gM<|gm<|fun a w hk=>?_
 obtain ⟨hc1, h⟩ := chk h
 refine lg hk rfl rfl rfl (fun hc => (f_pure (p_index underlying9 hk.kn hc rfl rfl hc1))) fun a w hk=>?_
 refine lg hk rfl rfl rfl (fun hc => (f_pure (p_eql hk.kn hc rfl rfl))) fun a w hk=>?_
 refine go hk<|gN<|gA<|ge q2 fun a w hk=>?_
 refine rg hk fun _ q3=>gM<|gA<|ge q3 fun a w hk=>?_
 refine wseqJ (fun a w => ∃ (v4 : Bool) (v5 : List UInt8), S M w0 a w 79 [] [(4, [], .lit (.bool v4)), (5, [], .lit (.string (B v5)))] ∧ r11_Int.j1 K v4 v5 = some r) ?_ ?_
 ·clear hk h
  rintro a w ⟨v4, v5, hk, h⟩
  unfold r11_Int.j1 at h
  refine wseq fun _ q5 => ?_
  refine rg hk fun _ q6=>gM<|gS<|gM<|gm<|fun a w hk=>?_
  refine lg hk rfl rfl rfl (fun hc => (f_pure (p_slen underlying9 hk.kn hc rfl))) fun a w hk=>?_
  refine lg hk rfl rfl rfl (fun hc => (f_pure (p_gtr hk.kn hc rfl rfl))) fun a w hk=>?_
  refine go hk<|gR<|gM<|gm<|fun a w hk=>?_
  obtain ⟨hc2, h⟩ := chk h
  refine lg hk rfl rfl rfl (fun hc => (f_pure (p_index underlying9 hk.kn hc rfl rfl hc2))) fun a w hk=>?_
  refine lg hk rfl rfl rfl (fun hc => (f_pure (p_eql hk.kn hc rfl rfl))) fun a w hk=>?_
  refine go hk<|gm<|fun a w hk=>?_
  refine go hk<|gm<|fun a w hk=>?_
  refine lg hk rfl rfl rfl (fun hc => (f_pure (p_slen underlying9 hk.kn hc rfl))) fun a w hk=>?_
  refine lg hk rfl rfl rfl (fun hc => (f_pure (p_gtr hk.kn hc rfl rfl))) fun a w hk=>?_
  refine go hk<|gm<|fun a w hk=>?_
  refine go hk<|gm<|fun a w hk=>?_
  refine lg hk rfl rfl rfl (fun hc => (f_pure (p_pick_or hk.kn hc rfl rfl))) fun a w hk=>?_
  refine lg hk rfl rfl rfl (fun hc => (f_pure (p_pick_and hk.kn hc rfl rfl))) fun a w hk=>?_
  refine go hk<|gR<|ge q6 fun a w hk=>wc hk h (fun h hb=>?_) fun h hb=>?_
  ·refine rg hk fun _ q7=>gA<|gA<|ge q7 fun a w hk=>?_
   refine wp_ret ?_
   obtain rfl := Option.some.inj h
   exact fret2 hk rfl rfl rfl
  refine wp_skip ?_
  refine q5 _ _ ?_
  refine rg hk fun _ q8=>gA<|ge q8 fun a w hk=>?_
  refine wseq fun _ q9 => ?_
  refine rg hk fun _ q10=>gA<|ge q10 fun a w hk=>?_
  refine wp_block ?_
  refine wloop (T := Nat × Bool × List UInt8 × Int × Int) (fun x a w => match x with | (kl1, v4, v5, v6, v7) => S M w0 a w 79 [] [(4, [], .lit (.bool v4)), (5, [], .lit (.string (B v5))), (6, [], .lit (.int .u64 v6)), (7, [], .lit (.int .i64 v7))] ∧ r11_Int.l1 K kl1 v4 v5 v6 v7 = some r) (fun x => x.1) (K, v4, v5, 0, 0) ⟨hk.sub ⟨rfl, rfl, rfl, rfl, trivial⟩, h⟩ ?_
  clear hk h
  rintro ⟨kl1, v4, v5, v6, v7⟩ a w ⟨hk, h⟩ K' q11
  cases kl1 with
  | zero => simp [r11_Int.l1] at h
  | succ kl1 =>
  rw [r11_Int.l1.eq_2] at h
  refine wseq fun _ q12 => ?_
  refine rg hk fun _ q13=>gM<|gM<|gP (p_slen underlying9 · h0 rfl)<|gL<|ge q13 fun a w hk=>wc hk h (fun h hb=>?_) fun h hb=>?_
  ·refine wp_skip ?_
   refine q12 _ _ ?_
   refine wseq fun _ q14 => ?_
   refine wp_block ?_
   refine wseq fun _ q15 => ?_
   refine rg hk fun _ q16=>gM<|gM<|fun a w hk=>?_
   obtain ⟨hc3, h⟩ := chk h
   refine go hk<|gP (p_index underlying9 · h0 rfl rfl hc3)<|gL<|gM<|gm<|fun a w hk=>?_
   refine go hk<|gm<|fun a w hk=>?_
   obtain ⟨hc4, h⟩ := chk h
   refine lg hk rfl rfl rfl (fun hc => (f_pure (p_index underlying9 hk.kn hc rfl rfl hc4))) fun a w hk=>?_
   refine lg hk rfl rfl rfl (fun hc => (f_pure (p_gtr hk.kn hc rfl rfl))) fun a w hk=>?_
   refine go hk<|gR<|ge q16 fun a w hk=>wc hk h (fun h hb=>?_) fun h hb=>?_
   ·refine rg hk fun _ q17=>gA<|gA<|ge q17 fun a w hk=>?_
    refine wp_ret ?_
    obtain rfl := Option.some.inj h
    exact fret2 hk rfl rfl rfl
   refine wp_skip ?_
   refine q15 _ _ ?_
   refine rg1 hk<|gM<|gP (p_mul · h0 rfl rfl)<|gM<|gM<|fun a w hk=>?_
   obtain ⟨hc5, h⟩ := chk h
   refine go hk<|gP (p_index underlying9 · h0 rfl rfl hc5)<|gP (p_conv underlying5 underlying77 · h0 rfl)<|gD<|gP (p_sub · h0 rfl rfl)<|gA<|fun a w hk=>?_
   refine wpList_nil ?_
   refine q14 _ _ ?_
   refine rg1 hk<|gM<|gD<|gA<|fun a w hk=>?_
   refine wpList_nil ?_
   exact q11 (kl1, v4, v5, (IntKind.wrap .u64 ((IntKind.wrap .u64 ((IntKind.wrap .u64 (v6 * 10)) + (IntKind.wrap .u64 (bt v5 v7)))) - 48)), (IntKind.wrap .i64 (v7 + 1))) _ _ (Nat.lt_succ_self _) ⟨hk.sub ⟨rfl, rfl, rfl, rfl, trivial⟩, h⟩
  refine wp_exit ?_; (repeat first | refine te ?_ | refine be rfl ?_); refine bx ?_
  refine q9 _ _ ?_
  refine wseq fun _ q20 => ?_
  refine rg hk fun _ q21=>gM<|gM<|gm<|fun a w hk=>?_
  refine lg hk rfl rfl rfl (fun hc => (f_pure (p_leq hk.kn hc rfl rfl))) fun a w hk=>?_
  refine go hk<|gN<|ge q21 fun a w hk=>wc hk h (fun h hb=>?_) fun h hb=>?_
  ·refine rg hk fun _ q22=>gM<|gP (p_neg · h0 rfl)<|gP (p_conv underlying77 underlying2 · h0 rfl)<|gA<|gA<|ge q22 fun a w hk=>?_
   refine wp_ret ?_
   obtain rfl := Option.some.inj h
   exact fret2 hk rfl rfl rfl
  refine wp_skip ?_
  refine q20 _ _ ?_
  refine wseq fun _ q23 => ?_
  refine rg hk fun _ q24=>gM<|gP (p_not · h0 rfl)<|gM<|gm<|fun a w hk=>?_
  refine lg hk rfl rfl rfl (fun hc => (f_pure (p_lss hk.kn hc rfl rfl))) fun a w hk=>?_
  refine go hk<|gN<|ge q24 fun a w hk=>wc hk h (fun h hb=>?_) fun h hb=>?_
  ·refine rg hk fun _ q25=>gM<|gP (p_conv underlying77 underlying2 · h0 rfl)<|gA<|gA<|ge q25 fun a w hk=>?_
   refine wp_ret ?_
   obtain rfl := Option.some.inj h
   exact fret2 hk rfl rfl rfl
  refine wp_skip ?_
  refine q23 _ _ ?_
  refine rg hk fun _ q26=>gA<|gA<|ge q26 fun a w hk=>?_
  refine wp_ret ?_
  obtain rfl := Option.some.inj h
  exact fret2 hk rfl rfl rfl
 ·intro K' q4
  refine rg hk fun _ q27=>gM<|ge q27 fun a w hk=>wc hk h (fun h hb=>?_) fun h hb=>?_
  ·refine rg1 hk<|gM<|fun a w hk=>?_
   obtain ⟨hc6, h⟩ := chk h
   refine go hk<|gP (p_slice_lo underlying9 · h0 rfl rfl hc6)<|gA<|fun a w hk=>?_
   refine wpList_nil ?_
   exact q4 _ _ ⟨((!decide (v0 = ([] : List UInt8))) && (decide ((bt v0 0) = 45))), (List.drop (Int.toNat 1) v0), hk.sub ⟨rfl, rfl, trivial⟩, h⟩
  refine wp_skip ?_
  exact q4 _ _ ⟨((!decide (v0 = ([] : List UInt8))) && (decide ((bt v0 0) = 45))), v0, hk.sub ⟨rfl, rfl, trivial⟩, h⟩
theorem r11_letter.ok  (v0 : Int) (r : Bool) (h : r11_letter.f v0 = some r) :
  Ok prog 75 [.lit (.int .u8 v0)] (.lit (.bool r)) := by
 refine enter (xs := [.lit (.int .u8 v0)]) func75 rfl ntmps75 rfl ?_
 intro M w0 a hk
 unfold r11_letter.f at h
 refine rg hk fun _ q1=>gA<|ge q1 fun a w hk=>?_
 refine rg hk fun _ q2=>gM<|gE<|gM<|gm<|fun a w hk=>?_
 refine lg hk rfl rfl rfl (fun hc => (f_pure (p_geq hk.kn hc rfl rfl))) fun a w hk=>?_
 refine go hk<|gm<|fun a w hk=>?_
 refine go hk<|gm<|fun a w hk=>?_
 refine lg hk rfl rfl rfl (fun hc => (f_pure (p_leq hk.kn hc rfl rfl))) fun a w hk=>?_
 refine lg hk rfl rfl rfl (fun hc => (f_pure (p_pick_and hk.kn hc rfl rfl))) fun a w hk=>?_
 refine go hk<|gR<|gM<|gm<|fun a w hk=>?_
 refine lg hk rfl rfl rfl (fun hc => (f_pure (p_geq hk.kn hc rfl rfl))) fun a w hk=>?_
 refine go hk<|gm<|fun a w hk=>?_
 refine go hk<|gm<|fun a w hk=>?_
 refine lg hk rfl rfl rfl (fun hc => (f_pure (p_leq hk.kn hc rfl rfl))) fun a w hk=>?_
 refine lg hk rfl rfl rfl (fun hc => (f_pure (p_pick_and hk.kn hc rfl rfl))) fun a w hk=>?_
 refine go hk<|gR<|gM<|gm<|fun a w hk=>?_
 refine lg hk rfl rfl rfl (fun hc => (f_pure (p_geq hk.kn hc rfl rfl))) fun a w hk=>?_
 refine go hk<|gm<|fun a w hk=>?_
 refine go hk<|gm<|fun a w hk=>?_
 refine lg hk rfl rfl rfl (fun hc => (f_pure (p_leq hk.kn hc rfl rfl))) fun a w hk=>?_
 refine lg hk rfl rfl rfl (fun hc => (f_pure (p_pick_and hk.kn hc rfl rfl))) fun a w hk=>?_
 refine go hk<|gR<|gA<|ge q2 fun a w hk=>?_
 refine wp_ret ?_
 obtain rfl := Option.some.inj h
 exact fret1 hk rfl rfl
end Go.Proofs.Ytbjbgodcenopnaa
namespace Go.Proofs.Ytbjbgodcenopnaa
open FW _root_.Go.Proofs.Try
set_option linter.unusedVariables false
set_option maxRecDepth 20000
set_option maxHeartbeats 10000000
theorem r11_one.ok (K : Nat) (v0 : List UInt8) (r : ApiWord × Int) (h : r11_one.f K v0 = some r) :
  Ok prog 50 [.lit (.string (B v0))] (.tup [.agg (ApiWord.cells r.1), .lit (.int .i64 r.2)]) := by
 refine enter (xs := [.lit (.string (B v0))]) func50 rfl ntmps50 rfl ?_
 intro M w0 a hk
 unfold r11_one.f at h
 refine wreg fun _ q1 => ?_
 refine l_alloc (zs := (ApiWord.cells (⟨0, [], 0, 0, 0⟩ : ApiWord))) [] hk rfl rfl rfl rfl ?_; clear hk; intro bx1 a w hk
 refine go hk<|gA<|ge q1 fun a w hk=>?_
 refine rg hk fun _ q2=>gM<|fun a w hk=>?_
 obtain ⟨hc1, h⟩ := chk h
 refine go hk<|gP (p_index underlying9 · h0 rfl rfl hc1)<|gA<|ge q2 fun a w hk=>?_
 refine wseq fun _ q3 => ?_
 refine wp_block ?_
 refine rg hk fun _ q4=>gM<|gE<|gM<|gm<|fun a w hk=>?_
 refine lg hk rfl rfl rfl (fun hc => (f_pure (p_slen underlying9 hk.kn hc rfl))) fun a w hk=>?_
 refine lg hk rfl rfl rfl (fun hc => (f_pure (p_gtr hk.kn hc rfl rfl))) fun a w hk=>?_
 refine go hk<|gN<|gM<|gm<|fun a w hk=>?_
 obtain ⟨hc2, h⟩ := chk h
 refine lg hk rfl rfl rfl (fun hc => (f_pure (p_index underlying9 hk.kn hc rfl rfl hc2))) fun a w hk=>?_
 refine lg hk rfl rfl rfl (fun hc => (f_pure (p_eql hk.kn hc rfl rfl))) fun a w hk=>?_
 refine go hk<|gN<|gA<|ge q4 fun a w hk=>wc hk h (fun h hb=>?_) fun h hb=>?_
 ·refine rg hk fun _ q5=>gM<|fun a w hk=>?_
  obtain ⟨hc3, h⟩ := chk h
  refine go hk<|gP (p_slice_lo underlying9 · h0 rfl rfl hc3)<|fun a w hk=>?_
  obtain ⟨t1, hr_t1, h⟩ := bnd h
  refine lf (y := .tup [.lit (.string (B t1.1)), .lit (.int .i64 t1.2)]) hk (f_call hk h0 rfl rfl func71 rfl (by kernel_rfl) (r11_Quoted.ok K (List.drop (Int.toNat 1) v0) _ hr_t1)) fun a w hk=>?_
  refine go hk<|gM<|fun a w hk=>?_
  refine go hk<|gX<|gX<|gA<|gA<|ge q5 fun a w hk=>?_
  refine rg hk fun _ q6=>gA<|ge q6 fun a w hk=>?_
  refine rg hk fun _ q7=>gM<|gP (p_gtr · h0 rfl rfl)<|gM<|gm<|fun a w hk=>?_
  refine lg hk rfl rfl rfl (fun hc => (f_pure (p_slen underlying9 hk.kn hc rfl))) fun a w hk=>?_
  refine lg hk rfl rfl rfl (fun hc => (f_pure (p_eql hk.kn hc rfl rfl))) fun a w hk=>?_
  refine go hk<|gN<|gA<|ge q7 fun a w hk=>?_
  refine wseq fun _ q8 => ?_
  refine rg hk fun _ q9=>gA<|ge q9 fun a w hk=>?_
  refine wp_block ?_
  refine wloop (T := Nat × List UInt8 × Int × Int × Bool × Int) (fun x a w => match x with | (kl1, v5, v6, v7, v8, v9) => S M w0 a w 189 [blk bx1 66 ((ApiWord.cells (⟨0, [], 0, 0, 0⟩ : ApiWord)))] [(2, [], .lit (.pointer (some ⟨bx1, 0, none⟩))), (5, [], .lit (.string (B v5))), (6, [], .lit (.int .i64 v6)), (7, [], .lit (.int .u64 v7)), (8, [], .lit (.bool v8)), (9, [], .lit (.int .i64 v9))] ∧ r11_one.l1 K kl1 v5 v6 v7 v8 v9 = some r) (fun x => x.1) (K, t1.1, t1.2, 0, ((decide (0 < t1.2)) && (decide ((List.length t1.1 : Int) = 16))), 0) ⟨hk.sub ⟨rfl, rfl, rfl, rfl, rfl, rfl, trivial⟩, h⟩ ?_
  clear hk h
  rintro ⟨kl1, v5, v6, v7, v8, v9⟩ a w ⟨hk, h⟩ K' q10
  cases kl1 with
  | zero => simp [r11_one.l1] at h
  | succ kl1 =>
  rw [r11_one.l1.eq_2] at h
  refine wseq fun _ q11 => ?_
  refine rg hk fun _ q12=>gM<|gM<|gP (p_slen underlying9 · h0 rfl)<|gL<|gM<|gm<|fun a w hk=>?_
  refine go hk<|gN<|ge q12 fun a w hk=>wc hk h (fun h hb=>?_) fun h hb=>?_
  ·refine wp_skip ?_
   refine q11 _ _ ?_
   refine wseq fun _ q13 => ?_
   refine wp_block ?_
   refine rg hk fun _ q14=>gM<|gM<|fun a w hk=>?_
   obtain ⟨hc4, h⟩ := chk h
   refine go hk<|gP (p_index underlying9 · h0 rfl rfl hc4)<|fun a w hk=>?_
   obtain ⟨t2, hr_t2, h⟩ := bnd h
   refine lf (y := .lit (.int .i64 t2)) hk (f_call hk h0 rfl rfl func72 rfl (by kernel_rfl) (r11_digit.ok (bt v5 v9) _ hr_t2)) fun a w hk=>?_
   refine go hk<|gL<|gA<|ge q14 fun a w hk=>?_
   refine rg1 hk<|gM<|gP (p_mul · h0 rfl rfl)<|gM<|gM<|fun a w hk=>?_
   obtain ⟨hc5, h⟩ := chk h
   refine go hk<|gP (p_index underlying9 · h0 rfl rfl hc5)<|fun a w hk=>?_
   obtain ⟨t3, hr_t3, h⟩ := bnd h
   refine lf (y := .lit (.int .i64 t3)) hk (f_call hk h0 rfl rfl func72 rfl (by kernel_rfl) (r11_digit.ok (bt v5 v9) _ hr_t3)) fun a w hk=>?_
   refine go hk<|gP (p_conv underlying3 underlying77 · h0 rfl)<|gD<|gA<|fun a w hk=>?_
   refine wpList_nil ?_
   refine q13 _ _ ?_
   refine rg1 hk<|gM<|gD<|gA<|fun a w hk=>?_
   refine wpList_nil ?_
   exact q10 (kl1, v5, v6, (IntKind.wrap .u64 ((IntKind.wrap .u64 (v7 * 16)) + (IntKind.wrap .u64 t3))), (decide (t2 < 16)), (IntKind.wrap .i64 (v9 + 1))) _ _ (Nat.lt_succ_self _) ⟨hk.sub ⟨rfl, rfl, rfl, rfl, rfl, rfl, trivial⟩, h⟩
  refine wp_exit ?_; (repeat first | refine te ?_ | refine be rfl ?_); refine bx ?_
  refine q8 _ _ ?_
  refine rg hk fun _ q17=>gM<|fun a w hk=>?_
  refine lf (y := .lit (.float .f64 (Int.toNat v7))) hk (f_frombits hk h0 rfl rfl func73 (by kernel_rfl) (by kernel_rfl) (by kernel_rfl) (by kernel_rfl)) fun a w hk=>?_
  refine go hk<|gA<|ge q17 fun a w hk=>?_
  refine wseq fun _ q18 => ?_
  refine rg hk fun _ q19=>gM<|gP (p_not · h0 rfl)<|gM<|gm<|fun a w hk=>?_
  obtain ⟨t4, hr_t4, h⟩ := bndG h
  refine lg (y := .lit (.int .u64 t4)) hk rfl rfl rfl (fun hc => f_call hk hc rfl rfl func35 rfl (by kernel_rfl) (r01_Canon.ok (Int.toNat v7) _ (hr_t4 (asm_out (p := (!v8) = false) hk.kn hc (fun e0 => e0))))) fun a w hk=>?_
  refine go hk<|gm<|fun a w hk=>?_
  refine lg hk rfl rfl rfl (fun hc => (f_pure (p_neq hk.kn hc rfl rfl))) fun a w hk=>?_
  refine go hk<|gR<|ge q19 fun a w hk=>wc hk h (fun h hb=>?_) fun h hb=>?_
  ·refine wreg fun _ q20 => ?_
   refine lf (y := .agg ((ApiWord.cells (⟨0, [], 0, 0, 0⟩ : ApiWord)))) hk (f_build hk h0 rfl rfl) fun a w hk=>?_
   refine st0 (cs' := (ApiWord.cells (⟨0, [], 0, 0, 0⟩ : ApiWord))) hk rfl (by kernel_rfl) fun w hk => ?_
   refine go hk<|gA<|ge q20 fun a w hk=>?_
   refine wp_ret ?_
   obtain rfl := Option.some.inj h
   exact fretR2 hk rfl (rcell hk rfl (j := 0) rfl underlying66 rfl (by kernel_rfl)) (rtmp hk rfl)
  refine wp_skip ?_
  refine q18 _ _ ?_
  refine rg hk fun _ q21=>gM<|fun a w hk=>?_
  refine lf (y := .agg ((ApiWord.cells (⟨3, [], 0, (Int.toNat v7), 0⟩ : ApiWord)))) hk (f_build hk h0 rfl rfl) fun a w hk=>?_
  refine go hk<|gM<|gD<|fun a w hk=>?_
  refine st0 (cs' := (ApiWord.cells (⟨3, [], 0, (Int.toNat v7), 0⟩ : ApiWord))) hk rfl (by kernel_rfl) fun w hk => ?_
  refine go hk<|gA<|ge q21 fun a w hk=>?_
  refine wp_ret ?_
  obtain rfl := Option.some.inj h
  exact fretR2 hk rfl (rcell hk rfl (j := 0) rfl underlying66 rfl (by kernel_rfl)) (rtmp hk rfl)
 refine rg hk fun _ q22=>gM<|gE<|gA<|ge q22 fun a w hk=>wc hk h (fun h hb=>?_) fun h hb=>?_
 ·refine rg hk fun _ q23=>gM<|fun a w hk=>?_
  obtain ⟨t5, hr_t5, h⟩ := bnd h
  refine lf (y := .tup [.lit (.string (B t5.1)), .lit (.int .i64 t5.2)]) hk (f_call hk h0 rfl rfl func71 rfl (by kernel_rfl) (r11_Quoted.ok K v0 _ hr_t5)) fun a w hk=>?_
  refine go hk<|gM<|fun a w hk=>?_
  refine go hk<|gX<|gX<|gA<|gA<|ge q23 fun a w hk=>?_
  refine wseq fun _ q24 => ?_
  refine rg hk fun _ q25=>gM<|gP (p_slen underlying9 · h0 rfl)<|gP (p_gtr · h0 rfl rfl)<|ge q25 fun a w hk=>wc hk h (fun h hb=>?_) fun h hb=>?_
  ·refine wreg fun _ q26 => ?_
   refine lf (y := .agg ((ApiWord.cells (⟨0, [], 0, 0, 0⟩ : ApiWord)))) hk (f_build hk h0 rfl rfl) fun a w hk=>?_
   refine st0 (cs' := (ApiWord.cells (⟨0, [], 0, 0, 0⟩ : ApiWord))) hk rfl (by kernel_rfl) fun w hk => ?_
   refine go hk<|gA<|ge q26 fun a w hk=>?_
   refine wp_ret ?_
   obtain rfl := Option.some.inj h
   exact fretR2 hk rfl (rcell hk rfl (j := 0) rfl underlying66 rfl (by kernel_rfl)) (rtmp hk rfl)
  refine wp_skip ?_
  refine q24 _ _ ?_
  refine rg hk fun _ q27=>gM<|fun a w hk=>?_
  refine lf (y := .agg ((ApiWord.cells (⟨4, t5.1, 0, 0, 0⟩ : ApiWord)))) hk (f_build hk h0 rfl rfl) fun a w hk=>?_
  refine go hk<|gM<|fun a w hk=>?_
  refine st0 (cs' := (ApiWord.cells (⟨4, t5.1, 0, 0, 0⟩ : ApiWord))) hk rfl (by kernel_rfl) fun w hk => ?_
  refine go hk<|gA<|ge q27 fun a w hk=>?_
  refine wp_ret ?_
  obtain rfl := Option.some.inj h
  exact fretR2 hk rfl (rcell hk rfl (j := 0) rfl underlying66 rfl (by kernel_rfl)) (rtmp hk rfl)
 refine rg hk fun _ q28=>gM<|gE<|gM<|gm<|fun a w hk=>?_
 refine lg hk rfl rfl rfl (fun hc => (f_pure (p_geq hk.kn hc rfl rfl))) fun a w hk=>?_
 refine go hk<|gm<|fun a w hk=>?_
 refine go hk<|gm<|fun a w hk=>?_
 refine lg hk rfl rfl rfl (fun hc => (f_pure (p_leq hk.kn hc rfl rfl))) fun a w hk=>?_
 refine lg hk rfl rfl rfl (fun hc => (f_pure (p_pick_and hk.kn hc rfl rfl))) fun a w hk=>?_
 refine go hk<|gR<|gA<|ge q28 fun a w hk=>wc hk h (fun h hb=>?_) fun h hb=>?_
 ·refine rg hk fun _ q29=>gA<|ge q29 fun a w hk=>?_
  refine wseq fun _ q30 => ?_
  refine wp_block ?_
  refine wloop (T := Nat × List UInt8 × Int) (fun x a w => match x with | (kl2, v0, v13) => S M w0 a w 189 [blk bx1 66 ((ApiWord.cells (⟨0, [], 0, 0, 0⟩ : ApiWord)))] [(0, [], .lit (.string (B v0))), (2, [], .lit (.pointer (some ⟨bx1, 0, none⟩))), (13, [], .lit (.int .i64 v13))] ∧ r11_one.l2 K kl2 v0 v13 = some r) (fun x => x.1) (K, v0, 1) ⟨hk.sub ⟨rfl, rfl, rfl, trivial⟩, h⟩ ?_
  clear hk h
  rintro ⟨kl2, v0, v13⟩ a w ⟨hk, h⟩ K' q31
  cases kl2 with
  | zero => simp [r11_one.l2] at h
  | succ kl2 =>
  rw [r11_one.l2.eq_2] at h
  refine wseq fun _ q32 => ?_
  refine rg hk fun _ q33=>gM<|gM<|gP (p_slen underlying9 · h0 rfl)<|gL<|gM<|gm<|fun a w hk=>?_
  refine go hk<|gm<|fun a w hk=>?_
  obtain ⟨hc6, h⟩ := chk h
  refine lg hk rfl rfl rfl (fun hc => (f_pure (p_index underlying9 hk.kn hc rfl rfl hc6))) fun a w hk=>?_
  refine lg hk rfl rfl rfl (fun hc => (f_pure (p_geq hk.kn hc rfl rfl))) fun a w hk=>?_
  refine go hk<|gN<|gM<|gm<|fun a w hk=>?_
  refine go hk<|gm<|fun a w hk=>?_
  obtain ⟨hc7, h⟩ := chk h
  refine lg hk rfl rfl rfl (fun hc => (f_pure (p_index underlying9 hk.kn hc rfl rfl hc7))) fun a w hk=>?_
  refine lg hk rfl rfl rfl (fun hc => (f_pure (p_leq hk.kn hc rfl rfl))) fun a w hk=>?_
  refine go hk<|gN<|ge q33 fun a w hk=>wc hk h (fun h hb=>?_) fun h hb=>?_
  ·refine wp_skip ?_
   refine q32 _ _ ?_
   refine wp_block ?_
   refine rg1 hk<|gM<|gD<|gA<|fun a w hk=>?_
   refine wpList_nil ?_
   exact q31 (kl2, v0, (IntKind.wrap .i64 (v13 + 1))) _ _ (Nat.lt_succ_self _) ⟨hk.sub ⟨rfl, rfl, rfl, trivial⟩, h⟩
  refine wp_exit ?_; (repeat first | refine te ?_ | refine be rfl ?_); refine bx ?_
  refine q30 _ _ ?_
  refine rg hk fun _ q35=>gM<|gM<|fun a w hk=>?_
  obtain ⟨hc8, h⟩ := chk h
  refine go hk<|gP (p_slice_hi underlying9 · h0 rfl rfl hc8)<|fun a w hk=>?_
  obtain ⟨t6, hr_t6, h⟩ := bnd h
  refine lf (y := .tup [.lit (.int .i64 t6.1), .lit (.bool t6.2)]) hk (f_call hk h0 rfl rfl func74 rfl (by kernel_rfl) (r11_Int.ok K (List.take (Int.toNat v13) v0) _ hr_t6)) fun a w hk=>?_
  refine go hk<|gM<|fun a w hk=>?_
  refine go hk<|gX<|gX<|gA<|gA<|ge q35 fun a w hk=>?_
  refine wseq fun _ q36 => ?_
  refine rg hk fun _ q37=>gM<|gP (p_not · h0 rfl)<|ge q37 fun a w hk=>wc hk h (fun h hb=>?_) fun h hb=>?_
  ·refine wreg fun _ q38 => ?_
   refine lf (y := .agg ((ApiWord.cells (⟨0, [], 0, 0, 0⟩ : ApiWord)))) hk (f_build hk h0 rfl rfl) fun a w hk=>?_
   refine st0 (cs' := (ApiWord.cells (⟨0, [], 0, 0, 0⟩ : ApiWord))) hk rfl (by kernel_rfl) fun w hk => ?_
   refine go hk<|gA<|ge q38 fun a w hk=>?_
   refine wp_ret ?_
   obtain rfl := Option.some.inj h
   exact fretR2 hk rfl (rcell hk rfl (j := 0) rfl underlying66 rfl (by kernel_rfl)) (rtmp hk rfl)
  refine wp_skip ?_
  refine q36 _ _ ?_
  refine rg hk fun _ q39=>gM<|fun a w hk=>?_
  refine lf (y := .agg ((ApiWord.cells (⟨2, [], t6.1, 0, 0⟩ : ApiWord)))) hk (f_build hk h0 rfl rfl) fun a w hk=>?_
  refine go hk<|gM<|fun a w hk=>?_
  refine st0 (cs' := (ApiWord.cells (⟨2, [], t6.1, 0, 0⟩ : ApiWord))) hk rfl (by kernel_rfl) fun w hk => ?_
  refine go hk<|gA<|ge q39 fun a w hk=>?_
  refine wp_ret ?_
  obtain rfl := Option.some.inj h
  exact fretR2 hk rfl (rcell hk rfl (j := 0) rfl underlying66 rfl (by kernel_rfl)) (rtmp hk rfl)
 refine rg hk fun _ q40=>gM<|fun a w hk=>?_
 obtain ⟨t7, hr_t7, h⟩ := bnd h
 refine lf (y := .lit (.bool t7)) hk (f_call hk h0 rfl rfl func75 rfl (by kernel_rfl) (r11_letter.ok (bt v0 0) _ hr_t7)) fun a w hk=>?_
 refine go hk<|gA<|ge q40 fun a w hk=>wc hk h (fun h hb=>?_) fun h hb=>?_
 ·refine rg hk fun _ q41=>gA<|ge q41 fun a w hk=>?_
  refine wseq fun _ q42 => ?_
  refine wp_block ?_
  refine wloop (T := Nat × List UInt8 × Int) (fun x a w => match x with | (kl3, v0, v16) => S M w0 a w 189 [blk bx1 66 ((ApiWord.cells (⟨0, [], 0, 0, 0⟩ : ApiWord)))] [(0, [], .lit (.string (B v0))), (2, [], .lit (.pointer (some ⟨bx1, 0, none⟩))), (16, [], .lit (.int .i64 v16))] ∧ r11_one.l3 K kl3 v0 v16 = some r) (fun x => x.1) (K, v0, 1) ⟨hk.sub ⟨rfl, rfl, rfl, trivial⟩, h⟩ ?_
  clear hk h
  rintro ⟨kl3, v0, v16⟩ a w ⟨hk, h⟩ K' q43
  cases kl3 with
  | zero => simp [r11_one.l3] at h
  | succ kl3 =>
  rw [r11_one.l3.eq_2] at h
  refine wseq fun _ q44 => ?_
  refine rg hk fun _ q45=>gM<|gM<|gP (p_slen underlying9 · h0 rfl)<|gL<|gM<|gm<|fun a w hk=>?_
  refine go hk<|gm<|fun a w hk=>?_
  obtain ⟨hc9, h⟩ := chk h
  refine lg hk rfl rfl rfl (fun hc => (f_pure (p_index underlying9 hk.kn hc rfl rfl hc9))) fun a w hk=>?_
  obtain ⟨t8, hr_t8, h⟩ := bndG h
  refine lg (y := .lit (.bool t8)) hk rfl rfl rfl (fun hc => f_call hk hc rfl rfl func75 rfl (by kernel_rfl) (r11_letter.ok (bt v0 v16) _ (hr_t8 (asm_out (p := (decide (v16 < (List.length v0 : Int))) = true) hk.kn hc (fun e0 => e0))))) fun a w hk=>?_
  refine go hk<|gN<|ge q45 fun a w hk=>wc hk h (fun h hb=>?_) fun h hb=>?_
  ·refine wp_skip ?_
   refine q44 _ _ ?_
   refine wp_block ?_
   refine rg1 hk<|gM<|gD<|gA<|fun a w hk=>?_
   refine wpList_nil ?_
   exact q43 (kl3, v0, (IntKind.wrap .i64 (v16 + 1))) _ _ (Nat.lt_succ_self _) ⟨hk.sub ⟨rfl, rfl, rfl, trivial⟩, h⟩
  refine wp_exit ?_; (repeat first | refine te ?_ | refine be rfl ?_); refine bx ?_
  refine q42 _ _ ?_
  refine wseq fun _ q47 => ?_
  refine rg hk fun _ q48=>gM<|gP (p_gtr · h0 rfl rfl)<|ge q48 fun a w hk=>wc hk h (fun h hb=>?_) fun h hb=>?_
  ·refine wreg fun _ q49 => ?_
   refine lf (y := .agg ((ApiWord.cells (⟨0, [], 0, 0, 0⟩ : ApiWord)))) hk (f_build hk h0 rfl rfl) fun a w hk=>?_
   refine st0 (cs' := (ApiWord.cells (⟨0, [], 0, 0, 0⟩ : ApiWord))) hk rfl (by kernel_rfl) fun w hk => ?_
   refine go hk<|gA<|ge q49 fun a w hk=>?_
   refine wp_ret ?_
   obtain rfl := Option.some.inj h
   exact fretR2 hk rfl (rcell hk rfl (j := 0) rfl underlying66 rfl (by kernel_rfl)) (rtmp hk rfl)
  refine wp_skip ?_
  refine q47 _ _ ?_
  refine rg hk fun _ q50=>gM<|gM<|fun a w hk=>?_
  obtain ⟨hc10, h⟩ := chk h
  refine go hk<|gP (p_slice_hi underlying9 · h0 rfl rfl hc10)<|fun a w hk=>?_
  refine lf (y := .agg ((ApiWord.cells (⟨1, (List.take (Int.toNat v16) v0), 0, 0, 0⟩ : ApiWord)))) hk (f_build hk h0 rfl rfl) fun a w hk=>?_
  refine go hk<|gM<|fun a w hk=>?_
  refine st0 (cs' := (ApiWord.cells (⟨1, (List.take (Int.toNat v16) v0), 0, 0, 0⟩ : ApiWord))) hk rfl (by kernel_rfl) fun w hk => ?_
  refine go hk<|gA<|ge q50 fun a w hk=>?_
  refine wp_ret ?_
  obtain rfl := Option.some.inj h
  exact fretR2 hk rfl (rcell hk rfl (j := 0) rfl underlying66 rfl (by kernel_rfl)) (rtmp hk rfl)
 refine rg hk fun _ q51=>gM<|gE<|gM<|gm<|fun a w hk=>?_
 refine lg hk rfl rfl rfl (fun hc => (f_pure (p_eql hk.kn hc rfl rfl))) fun a w hk=>?_
 refine go hk<|gR<|gM<|gm<|fun a w hk=>?_
 refine lg hk rfl rfl rfl (fun hc => (f_pure (p_eql hk.kn hc rfl rfl))) fun a w hk=>?_
 refine go hk<|gR<|gM<|gm<|fun a w hk=>?_
 refine lg hk rfl rfl rfl (fun hc => (f_pure (p_eql hk.kn hc rfl rfl))) fun a w hk=>?_
 refine go hk<|gR<|gM<|gm<|fun a w hk=>?_
 refine lg hk rfl rfl rfl (fun hc => (f_pure (p_eql hk.kn hc rfl rfl))) fun a w hk=>?_
 refine go hk<|gR<|gM<|gm<|fun a w hk=>?_
 refine lg hk rfl rfl rfl (fun hc => (f_pure (p_eql hk.kn hc rfl rfl))) fun a w hk=>?_
 refine go hk<|gR<|gA<|ge q51 fun a w hk=>wc hk h (fun h hb=>?_) fun h hb=>?_
 ·refine rg hk fun _ q52=>gM<|fun a w hk=>?_
  obtain ⟨hc11, h⟩ := chk h
  refine go hk<|gP (p_slice_hi underlying9 · h0 rfl rfl hc11)<|fun a w hk=>?_
  refine lf (y := .agg ((ApiWord.cells (⟨5, (List.take (Int.toNat 1) v0), 0, 0, 0⟩ : ApiWord)))) hk (f_build hk h0 rfl rfl) fun a w hk=>?_
  refine st0 (cs' := (ApiWord.cells (⟨5, (List.take (Int.toNat 1) v0), 0, 0, 0⟩ : ApiWord))) hk rfl (by kernel_rfl) fun w hk => ?_
  refine go hk<|gA<|ge q52 fun a w hk=>?_
  refine wp_ret ?_
  obtain rfl := Option.some.inj h
  exact fretR2 hk rfl (rcell hk rfl (j := 0) rfl underlying66 rfl (by kernel_rfl)) (rtmp hk rfl)
 refine wp_skip ?_
 refine q3 _ _ ?_
 refine wreg fun _ q53 => ?_
 refine lf (y := .agg ((ApiWord.cells (⟨0, [], 0, 0, 0⟩ : ApiWord)))) hk (f_build hk h0 rfl rfl) fun a w hk=>?_
 refine st0 (cs' := (ApiWord.cells (⟨0, [], 0, 0, 0⟩ : ApiWord))) hk rfl (by kernel_rfl) fun w hk => ?_
 refine go hk<|gA<|ge q53 fun a w hk=>?_
 refine wp_ret ?_
 obtain rfl := Option.some.inj h
 exact fretR2 hk rfl (rcell hk rfl (j := 0) rfl underlying66 rfl (by kernel_rfl)) (rtmp hk rfl)
end Go.Proofs.Ytbjbgodcenopnaa
namespace Go.Proofs.Ytbjbgodcenopnaa
open FW _root_.Go.Proofs.Try
set_option linter.unusedVariables false
set_option maxRecDepth 20000
set_option maxHeartbeats 10000000
theorem r11_Words.ok (K : Nat) (v0 : List UInt8) (r : List ApiWord × Int × Int) (h : r11_Words.f K v0 = some r) :
  Ok prog 25 [.lit (.string (B v0))] (.tup [.row (r_ApiWord_cells r.1), .lit (.int .i64 r.2.1), .lit (.int .i64 r.2.2)]) := by
 refine enter (xs := [.lit (.string (B v0))]) func25 rfl ntmps25 rfl ?_
 intro M w0 a hk
 unfold r11_Words.f at h
 refine wreg fun _ q1 => ?_
 refine lf (y := .row (r_ApiWord_cells [])) hk (f_assignNil) fun a w hk=>?_
 refine go hk<|gA<|gA<|ge q1 fun a w hk=>?_
 refine wseq fun _ q2 => ?_
 refine rg hk fun _ q3=>gM<|gP (p_slen underlying9 · h0 rfl)<|gP (p_gtr · h0 rfl rfl)<|ge q3 fun a w hk=>wc hk h (fun h hb=>?_) fun h hb=>?_
 ·refine wreg fun _ q4 => ?_
  refine lf (y := .row (r_ApiWord_cells [])) hk (f_assignNil) fun a w hk=>?_
  refine go hk<|gA<|gA<|ge q4 fun a w hk=>?_
  refine wp_ret ?_
  obtain rfl := Option.some.inj h
  exact fret3 hk rfl rfl rfl rfl
 refine wp_skip ?_
 refine q2 _ _ ?_
 refine wreg fun _ q5 => ?_
 refine l_buildSlice0 (f := ApiWord.cells) hk rfl rfl underlying60 rfl (fun _ => rfl) ?_; clear hk; intro bx1 a w hk
 refine go hk<|gA<|ge q5 fun a w hk=>?_
 refine wseq fun _ q6 => ?_
 refine rg hk fun _ q7=>gA<|ge q7 fun a w hk=>?_
 refine wp_block ?_
 refine wloop (T := Nat × List ApiWord × List UInt8 × Int × Option Addr × Nat) (fun x a w => match x with | (kl1, l1, v0, v6, xd1, xc1) => S M w0 a w 52 [orow xd1 xc1 66 5 ApiWord.cells l1] [(0, [], .lit (.string (B v0))), (5, [], .lit (.slice xd1 (List.length l1) xc1)), (6, [], .lit (.int .i64 v6))] ∧ r11_Words.l1 K kl1 l1 v0 v6 = some r) (fun x => x.1) (K, ([] : List ApiWord), v0, 0, (some ⟨bx1, 0, none⟩), 0) ⟨hk.sub ⟨rfl, rfl, rfl, trivial⟩, h⟩ ?_
 clear hk h
 rintro ⟨kl1, l1, v0, v6, xd1, xc1⟩ a w ⟨hk, h⟩ K' q8
 cases kl1 with
 | zero => simp [r11_Words.l1] at h
 | succ kl1 =>
 rw [r11_Words.l1.eq_2] at h
 refine wseq fun _ q9 => ?_
 refine rg hk fun _ q10=>gM<|gM<|gP (p_slen underlying9 · h0 rfl)<|gL<|ge q10 fun a w hk=>wc hk h (fun h hb=>?_) fun h hb=>?_
 ·refine wp_skip ?_
  refine q9 _ _ ?_
  refine wp_block ?_
  refine wseq fun _ q11 => ?_
  refine rg hk fun _ q12=>gM<|gM<|fun a w hk=>?_
  obtain ⟨hc1, h⟩ := chk h
  refine go hk<|gP (p_index underlying9 · h0 rfl rfl hc1)<|gE<|ge q12 fun a w hk=>wc hk h (fun h hb=>?_) fun h hb=>?_
  ·refine rg hk fun _ q13=>gM<|gD<|gA<|ge q13 fun a w hk=>?_
   refine wp_exit ?_; (repeat first | refine te ?_ | refine be rfl ?_); refine bx ?_
   exact q8 (kl1, l1, v0, (IntKind.wrap .i64 (v6 + 1)), xd1, xc1) _ _ (Nat.lt_succ_self _) ⟨hk.sub ⟨rfl, rfl, rfl, trivial⟩, h⟩
  refine wp_skip ?_
  refine q11 _ _ ?_
  refine rg hk fun _ q14=>gM<|gM<|fun a w hk=>?_
  obtain ⟨hc2, h⟩ := chk h
  refine go hk<|gP (p_slice_lo underlying9 · h0 rfl rfl hc2)<|fun a w hk=>?_
  obtain ⟨t1, hr_t1, h⟩ := bnd h
  refine lf (y := .tup [.agg ((ApiWord.cells t1.1)), .lit (.int .i64 t1.2)]) hk (f_call hk h0 rfl rfl func50 rfl (by kernel_rfl) (r11_one.ok K (List.drop (Int.toNat v6) v0) _ hr_t1)) fun a w hk=>?_
  refine go hk<|gM<|fun a w hk=>?_
  refine go hk<|gX<|gX<|fun a w hk=>?_
  refine l_alloc (zs := (ApiWord.cells (⟨0, [], 0, 0, 0⟩ : ApiWord))) [] hk rfl rfl rfl rfl ?_; clear hk; intro bx2 a w hk
  refine st0 (cs' := (ApiWord.cells t1.1)) hk rfl (by kernel_rfl) fun w hk => ?_
  refine go hk<|gA<|ge q14 fun a w hk=>?_
  refine wseq fun _ q15 => ?_
  refine rg hk fun _ q16=>gM<|gE<|ge q16 fun a w hk=>wc hk h (fun h hb=>?_) fun h hb=>?_
  ·refine rg hk fun _ q17=>gM<|fun a w hk=>?_
   refine lf (y := .row (r_ApiWord_cells [])) hk (f_assignNil) fun a w hk=>?_
   refine go hk<|gA<|gA<|ge q17 fun a w hk=>?_
   refine wp_ret ?_
   obtain rfl := Option.some.inj h
   exact fret3 hk rfl rfl rfl rfl
  refine wp_skip ?_
  refine q15 _ _ ?_
  refine wseq fun _ q18 => ?_
  refine rg hk fun _ q19=>gM<|gP (p_len underlying60 · h0 rfl)<|gE<|ge q19 fun a w hk=>wc hk h (fun h hb=>?_) fun h hb=>?_
  ·refine rg hk fun _ q20=>gM<|fun a w hk=>?_
   refine lf (y := .row (r_ApiWord_cells [])) hk (f_assignNil) fun a w hk=>?_
   refine go hk<|gA<|gA<|ge q20 fun a w hk=>?_
   refine wp_ret ?_
   obtain rfl := Option.some.inj h
   exact fret3 hk rfl rfl rfl rfl
  refine wp_skip ?_
  refine q18 _ _ ?_
  refine rg hk fun _ q21=>gM<|gF 4 underlying66<|fun a w hk=>?_
  refine st0 (cs' := (ApiWord.cells (⟨t1.1.Kind, t1.1.S, t1.1.N, t1.1.F, v6⟩ : ApiWord))) hk rfl (by kernel_rfl) fun w hk => ?_
  refine lend (q21 _ _ ?_)
  refine rg1 hk<|gM<|fun a w hk=>?_
  refine lf hk (f_loadBlk hk h0 (j := 0) rfl rfl underlying66 rfl rfl rfl rfl) fun a w hk=>?_
  refine l_buildSlice (f := ApiWord.cells) (l := ([(⟨t1.1.Kind, t1.1.S, t1.1.N, t1.1.F, v6⟩ : ApiWord)] : List ApiWord)) hk rfl rfl rfl underlying60 rfl rfl rfl rfl (fun _ => rfl) rfl ?_; clear hk; intro bx3 a w hk
  obtain ⟨hc3, h⟩ := chk h
  refine l_append (l2 := ([(⟨t1.1.Kind, t1.1.S, t1.1.N, t1.1.F, v6⟩ : ApiWord)] : List ApiWord)) (l3 := (l1 ++ ([(⟨t1.1.Kind, t1.1.S, t1.1.N, t1.1.F, v6⟩ : ApiWord)] : List ApiWord))) (I' := fun ad1 cap1 => [orow (some ⟨bx3, 0, none⟩) 1 66 5 ApiWord.cells ([(⟨t1.1.Kind, t1.1.S, t1.1.N, t1.1.F, v6⟩ : ApiWord)] : List ApiWord), blk bx2 66 ((ApiWord.cells (⟨t1.1.Kind, t1.1.S, t1.1.N, t1.1.F, v6⟩ : ApiWord))), orow ad1 cap1 66 5 ApiWord.cells (l1 ++ ([(⟨t1.1.Kind, t1.1.S, t1.1.N, t1.1.F, v6⟩ : ApiWord)] : List ApiWord))]) (j := 2) hk rfl rfl rfl rfl (own_src hk (j := 0) rfl rfl (fun _ => rfl) underlying60) underlying60 (by kernel_rfl) hc3 rfl (fun _ _ => rfl) ?_; clear hk; intro ad1 cap1 a w hk
  replace hk := S.dropI (I' := [blk bx2 66 ((ApiWord.cells (⟨t1.1.Kind, t1.1.S, t1.1.N, t1.1.F, v6⟩ : ApiWord))), orow ad1 cap1 66 5 ApiWord.cells (l1 ++ ([(⟨t1.1.Kind, t1.1.S, t1.1.N, t1.1.F, v6⟩ : ApiWord)] : List ApiWord))]) hk 0 rfl
  refine go hk<|gM<|gM<|gD<|gA<|gA<|fun a w hk=>?_
  refine wpList_nil ?_
  exact q8 (kl1, (l1 ++ ([(⟨t1.1.Kind, t1.1.S, t1.1.N, t1.1.F, v6⟩ : ApiWord)] : List ApiWord)), v0, (IntKind.wrap .i64 (v6 + t1.2)), ad1, cap1) _ _ (Nat.lt_succ_self _) ⟨(hk.drop 0).sub ⟨rfl, rfl, rfl, trivial⟩, h⟩
 refine wp_exit ?_; (repeat first | refine te ?_ | refine be rfl ?_); refine bx ?_
 refine q6 _ _ ?_
 refine rg hk fun _ q23=>gM<|gM<|gP (p_slen underlying9 · h0 rfl)<|fun a w hk=>?_
 refine lf (y := .agg ((ApiWord.cells (⟨0, [], 0, 0, (List.length v0 : Int)⟩ : ApiWord)))) hk (f_build hk h0 rfl rfl) fun a w hk=>?_
 refine l_buildSlice (f := ApiWord.cells) (l := ([(⟨0, [], 0, 0, (List.length v0 : Int)⟩ : ApiWord)] : List ApiWord)) hk rfl rfl rfl underlying60 rfl rfl rfl rfl (fun _ => rfl) rfl ?_; clear hk; intro bx4 a w hk
 obtain ⟨hc4, h⟩ := chk h
 refine l_append (l2 := ([(⟨0, [], 0, 0, (List.length v0 : Int)⟩ : ApiWord)] : List ApiWord)) (l3 := (l1 ++ ([(⟨0, [], 0, 0, (List.length v0 : Int)⟩ : ApiWord)] : List ApiWord))) (I' := fun ad2 cap2 => [orow (some ⟨bx4, 0, none⟩) 1 66 5 ApiWord.cells ([(⟨0, [], 0, 0, (List.length v0 : Int)⟩ : ApiWord)] : List ApiWord), orow ad2 cap2 66 5 ApiWord.cells (l1 ++ ([(⟨0, [], 0, 0, (List.length v0 : Int)⟩ : ApiWord)] : List ApiWord))]) (j := 1) hk rfl rfl rfl rfl (own_src hk (j := 0) rfl rfl (fun _ => rfl) underlying60) underlying60 (by kernel_rfl) hc4 rfl (fun _ _ => rfl) ?_; clear hk; intro ad2 cap2 a w hk
 replace hk := S.dropI (I' := [orow ad2 cap2 66 5 ApiWord.cells (l1 ++ ([(⟨0, [], 0, 0, (List.length v0 : Int)⟩ : ApiWord)] : List ApiWord))]) hk 0 rfl
 refine go hk<|gA<|gA<|gA<|ge q23 fun a w hk=>?_
 refine wp_ret ?_
 replace hk := S.freezeR (I' := []) r_ApiWord_cells_eq hk (j := 0) rfl (t := 2) rfl rfl
 obtain rfl := Option.some.inj h
 exact fret3 hk rfl rfl rfl rfl
theorem p12_is.ok  (v0 : St12) (v1 : List UInt8) (r : Bool) (h : p12_is.f v0 v1 = some r) :
  Ok prog 51 [.agg (St12.cells v0), .lit (.string (B v1))] (.lit (.bool r)) := by
 refine enter (xs := [.agg (St12.cells v0), .lit (.string (B v1))]) func51 rfl ntmps51 rfl ?_
 intro M w0 a hk
 unfold p12_is.f at h
 refine wreg fun _ q1 => ?_
 refine l_box (cs := (St12.cells v0)) hk rfl rfl rfl rfl rfl ?_; clear hk; intro bx1 a w hk
 refine go hk<|gA<|ge q1 fun a w hk=>?_
 refine rg hk fun _ q2=>gF 5 underlying64<|gB 0 underlying23<|gE<|gM<|fun a w hk=>?_
 refine lg (y := .lit (.pointer (some ⟨bx1, 0, none⟩))) hk rfl rfl rfl (fun hc => f_fieldPtr hk hc rfl underlying64 rfl (by kernel_rfl) rfl) fun a w hk=>?_
 refine lg hk rfl rfl rfl (fun hc => f_loadBlk1 hk hc (j := 0) rfl rfl underlying60 rfl rfl) fun a w hk=>?_
 refine lg (y := .lit (.pointer (some ⟨bx1, 1, none⟩))) hk rfl rfl rfl (fun hc => f_fieldPtr hk hc rfl underlying64 rfl (by kernel_rfl) rfl) fun a w hk=>?_
 refine lg hk rfl rfl rfl (fun hc => f_loadBlk1 hk hc (j := 0) rfl rfl underlying3 rfl rfl) fun a w hk=>?_
 obtain ⟨hc1, h⟩ := chk h
 refine lg (y := .ref (ApiWord.cells (List.getD v0.L (Int.toNat v0.I) default))) hk rfl rfl rfl (fun hc => f_indexAddr (R := r_ApiWord_cells) (f := ApiWord.cells) (l := v0.L) (sz := 5) r_ApiWord_cells_eq (fun _ => rfl) hk hc rfl rfl underlying60 (by kernel_rfl) hc1) fun a w hk=>?_
 refine lg hk rfl rfl rfl (fun hc => f_fieldAddr hk hc rfl underlying66 rfl (by kernel_rfl) rfl) fun a w hk=>?_
 refine lg hk rfl rfl rfl (fun hc => f_load1 hk hc rfl rfl underlying3 rfl) fun a w hk=>?_
 refine lg hk rfl rfl rfl (fun hc => (f_pure (p_eql hk.kn hc rfl rfl))) fun a w hk=>?_
 refine go hk<|gN<|gM<|fun a w hk=>?_
 refine lg (y := .lit (.pointer (some ⟨bx1, 0, none⟩))) hk rfl rfl rfl (fun hc => f_fieldPtr hk hc rfl underlying64 rfl (by kernel_rfl) rfl) fun a w hk=>?_
 refine lg hk rfl rfl rfl (fun hc => f_loadBlk1 hk hc (j := 0) rfl rfl underlying60 rfl rfl) fun a w hk=>?_
 refine lg (y := .lit (.pointer (some ⟨bx1, 1, none⟩))) hk rfl rfl rfl (fun hc => f_fieldPtr hk hc rfl underlying64 rfl (by kernel_rfl) rfl) fun a w hk=>?_
 refine lg hk rfl rfl rfl (fun hc => f_loadBlk1 hk hc (j := 0) rfl rfl underlying3 rfl rfl) fun a w hk=>?_
 obtain ⟨hc2, h⟩ := chk h
 refine lg (y := .ref (ApiWord.cells (List.getD v0.L (Int.toNat v0.I) default))) hk rfl rfl rfl (fun hc => f_indexAddr (R := r_ApiWord_cells) (f := ApiWord.cells) (l := v0.L) (sz := 5) r_ApiWord_cells_eq (fun _ => rfl) hk hc rfl rfl underlying60 (by kernel_rfl) hc2) fun a w hk=>?_
 refine lg hk rfl rfl rfl (fun hc => f_fieldAddr hk hc rfl underlying66 rfl (by kernel_rfl) rfl) fun a w hk=>?_
 refine lg hk rfl rfl rfl (fun hc => f_load1 hk hc rfl rfl underlying9 rfl) fun a w hk=>?_
 refine go hk<|gm<|fun a w hk=>?_
 refine lg hk rfl rfl rfl (fun hc => (f_pure (p_seql hk.kn hc rfl rfl))) fun a w hk=>?_
 refine go hk<|gN<|gA<|ge q2 fun a w hk=>?_
 refine wp_ret ?_
 obtain rfl := Option.some.inj h
 exact fret1 hk rfl rfl
theorem p12_fail.ok  (v0 : St12) (v1 : Int) (r : St12) (h : p12_fail.f v0 v1 = some r) :
  Ok prog 28 [.agg (St12.cells v0), .lit (.int .i64 v1)] (.agg (St12.cells r)) := by
 refine enter (xs := [.agg (St12.cells v0), .lit (.int .i64 v1)]) func28 rfl ntmps28 rfl ?_
 intro M w0 a hk
 unfold p12_fail.f at h
 refine wreg fun _ q1 => ?_
 refine l_box (cs := (St12.cells v0)) hk rfl rfl rfl rfl rfl ?_; clear hk; intro bx1 a w hk
 refine l_alloc (zs := (St12.cells (⟨[], 0, 0, 0, 0, 0⟩ : St12))) [] hk rfl rfl rfl rfl ?_; clear hk; intro bx2 a w hk
 refine lend (q1 _ _ ?_)
 refine wseqJ (fun a w => ∃ (y1 : St12), S M w0 a w 19 [blk bx2 64 ((St12.cells (⟨[], 0, 0, 0, 0, 0⟩ : St12))), blk bx1 64 ((St12.cells y1))] [(2, [], .lit (.pointer (some ⟨bx1, 0, none⟩))), (4, [], .lit (.pointer (some ⟨bx2, 0, none⟩)))] ∧ p12_fail.j1 y1 = some r) ?_ ?_
 ·clear hk h
  rintro a w ⟨y1, hk, h⟩
  unfold p12_fail.j1 at h
  refine wreg fun _ q3 => ?_
  refine lf hk (f_loadBlk hk h0 (j := 1) rfl rfl underlying64 rfl rfl rfl rfl) fun a w hk=>?_
  refine st0 (cs' := (St12.cells y1)) hk rfl (by kernel_rfl) fun w hk => ?_
  refine lend (q3 _ _ ?_)
  refine wp_ret ?_
  obtain rfl := Option.some.inj h
  exact fretR1 hk rfl (rcell hk rfl (j := 0) rfl underlying64 rfl (by kernel_rfl))
 ·intro K' q2
  refine rg hk fun _ q4=>gF 5 underlying64<|gB 1 underlying23<|gE<|ge q4 fun a w hk=>wc hk h (fun h hb=>?_) fun h hb=>?_
  ·refine rg1 hk<|gF 0 underlying64<|gB 1 underlying60<|gF 1 underlying64<|gB 1 underlying3<|fun a w hk=>?_
   obtain ⟨hc1, h⟩ := chk h
   refine lf (y := .ref (ApiWord.cells (List.getD v0.L (Int.toNat v0.I) default))) hk (f_indexAddr (R := r_ApiWord_cells) (f := ApiWord.cells) (l := v0.L) (sz := 5) r_ApiWord_cells_eq (fun _ => rfl) hk h0 rfl rfl underlying60 (by kernel_rfl) hc1) fun a w hk=>?_
   refine lf hk (f_fieldAddr hk h0 rfl underlying66 rfl (by kernel_rfl) rfl) fun a w hk=>?_
   refine lf hk (f_load1 hk h0 rfl rfl underlying3 rfl) fun a w hk=>?_
   refine go hk<|gM<|gF 4 underlying64<|fun a w hk=>?_
   refine st1 (cs' := (St12.cells (⟨v0.L, v0.I, v0.Deep, v0.Steps, (List.getD v0.L (Int.toNat v0.I) default).At, v0.E⟩ : St12))) hk rfl (by kernel_rfl) fun w hk => ?_
   refine go hk<|gF 5 underlying64<|fun a w hk=>?_
   refine st1 (cs' := (St12.cells (⟨v0.L, v0.I, v0.Deep, v0.Steps, (List.getD v0.L (Int.toNat v0.I) default).At, v1⟩ : St12))) hk rfl (by kernel_rfl) fun w hk => ?_
   refine wpList_nil ?_
   exact q2 _ _ ⟨(⟨v0.L, v0.I, v0.Deep, v0.Steps, (List.getD v0.L (Int.toNat v0.I) default).At, v1⟩ : St12), hk.sub ⟨rfl, rfl, trivial⟩, h⟩
  refine wp_skip ?_
  exact q2 _ _ ⟨v0, hk.sub ⟨rfl, rfl, trivial⟩, h⟩
theorem p12_sign.ok  (v0 : St12) (v1 : List UInt8) (r : St12) (h : p12_sign.f v0 v1 = some r) :
  Ok prog 26 [.agg (St12.cells v0), .lit (.string (B v1))] (.agg (St12.cells r)) := by
 refine enter (xs := [.agg (St12.cells v0), .lit (.string (B v1))]) func26 rfl ntmps26 rfl ?_
 intro M w0 a hk
 unfold p12_sign.f at h
 refine wreg fun _ q1 => ?_
 refine l_box (cs := (St12.cells v0)) hk rfl rfl rfl rfl rfl ?_; clear hk; intro bx1 a w hk
 refine l_alloc (zs := (St12.cells (⟨[], 0, 0, 0, 0, 0⟩ : St12))) [] hk rfl rfl rfl rfl ?_; clear hk; intro bx2 a w hk
 refine lend (q1 _ _ ?_)
 refine wseq fun _ q2 => ?_
 refine rg hk fun _ q3=>gF 5 underlying64<|gB 1 underlying23<|gP (p_neq · h0 rfl rfl)<|ge q3 fun a w hk=>wc hk h (fun h hb=>?_) fun h hb=>?_
 ·refine wreg fun _ q4 => ?_
  refine lf hk (f_loadBlk hk h0 (j := 1) rfl rfl underlying64 rfl rfl rfl rfl) fun a w hk=>?_
  refine st0 (cs' := (St12.cells v0)) hk rfl (by kernel_rfl) fun w hk => ?_
  refine lend (q4 _ _ ?_)
  refine wp_ret ?_
  obtain rfl := Option.some.inj h
  exact fretR1 hk rfl (rcell hk rfl (j := 0) rfl underlying64 rfl (by kernel_rfl))
 refine wp_skip ?_
 refine q2 _ _ ?_
 refine wseq fun _ q5 => ?_
 refine wreg fun _ q6 => ?_
 refine lf hk (f_loadBlk hk h0 (j := 1) rfl rfl underlying64 rfl rfl rfl rfl) fun a w hk=>?_
 refine go hk<|gM<|fun a w hk=>?_
 obtain ⟨t1, hr_t1, h⟩ := bnd h
 refine lf (y := .lit (.bool t1)) hk (f_call hk h0 rfl rfl func51 rfl (by kernel_rfl) (p12_is.ok v0 v1 _ hr_t1)) fun a w hk=>?_
 refine go hk<|gP (p_not · h0 rfl)<|ge q6 fun a w hk=>wc hk h (fun h hb=>?_) fun h hb=>?_
 ·refine wreg fun _ q7 => ?_
  refine lf hk (f_loadBlk hk h0 (j := 1) rfl rfl underlying64 rfl rfl rfl rfl) fun a w hk=>?_
  obtain ⟨t2, hr_t2, h⟩ := bnd h
  refine lf (y := .agg ((St12.cells t2))) hk (f_call hk h0 rfl rfl func28 rfl (by kernel_rfl) (p12_fail.ok v0 120 _ hr_t2)) fun a w hk=>?_
  refine st0 (cs' := (St12.cells t2)) hk rfl (by kernel_rfl) fun w hk => ?_
  refine lend (q7 _ _ ?_)
  refine wp_ret ?_
  obtain rfl := Option.some.inj h
  exact fretR1 hk rfl (rcell hk rfl (j := 0) rfl underlying64 rfl (by kernel_rfl))
 refine wp_skip ?_
 refine q5 _ _ ?_
 refine rg hk fun _ q8=>gF 1 underlying64<|gB 1 underlying3<|gD<|gF 1 underlying64<|fun a w hk=>?_
 refine st1 (cs' := (St12.cells (⟨v0.L, (IntKind.wrap .i64 (v0.I + 1)), v0.Deep, v0.Steps, v0.At, v0.E⟩ : St12))) hk rfl (by kernel_rfl) fun w hk => ?_
 refine lend (q8 _ _ ?_)
 refine wreg fun _ q9 => ?_
 refine lf hk (f_loadBlk hk h0 (j := 1) rfl rfl underlying64 rfl rfl rfl rfl) fun a w hk=>?_
 refine st0 (cs' := (St12.cells (⟨v0.L, (IntKind.wrap .i64 (v0.I + 1)), v0.Deep, v0.Steps, v0.At, v0.E⟩ : St12))) hk rfl (by kernel_rfl) fun w hk => ?_
 refine lend (q9 _ _ ?_)
 refine wp_ret ?_
 obtain rfl := Option.some.inj h
 exact fretR1 hk rfl (rcell hk rfl (j := 0) rfl underlying64 rfl (by kernel_rfl))
theorem p12_into.ok  (v0 : St12) (r : St12) (h : p12_into.f v0 = some r) :
  Ok prog 79 [.agg (St12.cells v0)] (.agg (St12.cells r)) := by
 refine enter (xs := [.agg (St12.cells v0)]) func79 rfl ntmps79 rfl ?_
 intro M w0 a hk
 unfold p12_into.f at h
 refine wreg fun _ q1 => ?_
 refine l_box (cs := (St12.cells v0)) hk rfl rfl rfl rfl rfl ?_; clear hk; intro bx1 a w hk
 refine l_alloc (zs := (St12.cells (⟨[], 0, 0, 0, 0, 0⟩ : St12))) [] hk rfl rfl rfl rfl ?_; clear hk; intro bx2 a w hk
 refine lend (q1 _ _ ?_)
 refine wseq fun _ q2 => ?_
 refine rg hk fun _ q3=>gF 5 underlying64<|gB 1 underlying23<|gP (p_neq · h0 rfl rfl)<|ge q3 fun a w hk=>wc hk h (fun h hb=>?_) fun h hb=>?_
 ·refine wreg fun _ q4 => ?_
  refine lf hk (f_loadBlk hk h0 (j := 1) rfl rfl underlying64 rfl rfl rfl rfl) fun a w hk=>?_
  refine st0 (cs' := (St12.cells v0)) hk rfl (by kernel_rfl) fun w hk => ?_
  refine lend (q4 _ _ ?_)
  refine wp_ret ?_
  obtain rfl := Option.some.inj h
  exact fretR1 hk rfl (rcell hk rfl (j := 0) rfl underlying64 rfl (by kernel_rfl))
 refine wp_skip ?_
 refine q2 _ _ ?_
 refine wseq fun _ q5 => ?_
 refine rg hk fun _ q6=>gF 2 underlying64<|gB 1 underlying3<|gP (p_geq · h0 rfl rfl)<|ge q6 fun a w hk=>wc hk h (fun h hb=>?_) fun h hb=>?_
 ·refine wreg fun _ q7 => ?_
  refine lf hk (f_loadBlk hk h0 (j := 1) rfl rfl underlying64 rfl rfl rfl rfl) fun a w hk=>?_
  obtain ⟨t1, hr_t1, h⟩ := bnd h
  refine lf (y := .agg ((St12.cells t1))) hk (f_call hk h0 rfl rfl func28 rfl (by kernel_rfl) (p12_fail.ok v0 3 _ hr_t1)) fun a w hk=>?_
  refine st0 (cs' := (St12.cells t1)) hk rfl (by kernel_rfl) fun w hk => ?_
  refine lend (q7 _ _ ?_)
  refine wp_ret ?_
  obtain rfl := Option.some.inj h
  exact fretR1 hk rfl (rcell hk rfl (j := 0) rfl underlying64 rfl (by kernel_rfl))
 refine wp_skip ?_
 refine q5 _ _ ?_
 refine rg hk fun _ q8=>gF 2 underlying64<|gB 1 underlying3<|gD<|gF 2 underlying64<|fun a w hk=>?_
 refine st1 (cs' := (St12.cells (⟨v0.L, v0.I, (IntKind.wrap .i64 (v0.Deep + 1)), v0.Steps, v0.At, v0.E⟩ : St12))) hk rfl (by kernel_rfl) fun w hk => ?_
 refine lend (q8 _ _ ?_)
 refine wreg fun _ q9 => ?_
 refine lf hk (f_loadBlk hk h0 (j := 1) rfl rfl underlying64 rfl rfl rfl rfl) fun a w hk=>?_
 refine st0 (cs' := (St12.cells (⟨v0.L, v0.I, (IntKind.wrap .i64 (v0.Deep + 1)), v0.Steps, v0.At, v0.E⟩ : St12))) hk rfl (by kernel_rfl) fun w hk => ?_
 refine lend (q9 _ _ ?_)
 refine wp_ret ?_
 obtain rfl := Option.some.inj h
 exact fretR1 hk rfl (rcell hk rfl (j := 0) rfl underlying64 rfl (by kernel_rfl))
end Go.Proofs.Ytbjbgodcenopnaa
namespace Go.Proofs.Ytbjbgodcenopnaa
open FW _root_.Go.Proofs.Try
set_option linter.unusedVariables false
set_option maxRecDepth 20000
set_option maxHeartbeats 10000000
abbrev Zzvs (zvs : St12 → List UInt8 → Option (St12 × List ApiValue)) : Prop := ∀ (v0 : St12) (v1 : List UInt8) (r : St12 × List ApiValue), zvs v0 v1 = some r → Ok prog 108 [.agg (St12.cells v0), .lit (.string (B v1))] (.tup [.agg (St12.cells r.1), .row (r_ApiValue_cells r.2)])
abbrev Zzv (zv : St12 → Option (St12 × ApiValue × Bool)) : Prop := ∀ (v0 : St12) (r : St12 × ApiValue × Bool), zv v0 = some r → Ok prog 76 [.agg (St12.cells v0)] (.tup [.agg (St12.cells r.1), .agg (ApiValue.cells r.2.1), .lit (.bool r.2.2)])
theorem p12_value.bok (zv : St12 → Option (St12 × ApiValue × Bool)) (zvs : St12 → List UInt8 → Option (St12 × List ApiValue)) (hzv : Zzv zv) (hzvs : Zzvs zvs) (K : Nat) (v0 : St12) (r : St12 × ApiValue × Bool) (h : p12_value.b zv zvs K v0 = some r) :
  Ok prog 76 [.agg (St12.cells v0)] (.tup [.agg (St12.cells r.1), .agg (ApiValue.cells r.2.1), .lit (.bool r.2.2)]) := by
 refine enter (xs := [.agg (St12.cells v0)]) func76 rfl ntmps76 rfl ?_
 intro M w0 a hk
 unfold p12_value.b at h
 refine wreg fun _ q1 => ?_
 refine l_box (cs := (St12.cells v0)) hk rfl rfl rfl rfl rfl ?_; clear hk; intro bx1 a w hk
 refine l_alloc (zs := (St12.cells (⟨[], 0, 0, 0, 0, 0⟩ : St12))) [] hk rfl rfl rfl rfl ?_; clear hk; intro bx2 a w hk
 refine l_alloc (zs := (ApiValue.cells (⟨0, false, 0, 0, [], []⟩ : ApiValue))) [] hk rfl rfl rfl rfl ?_; clear hk; intro bx3 a w hk
 refine go hk<|gA<|ge q1 fun a w hk=>?_
 refine wseq fun _ q2 => ?_
 refine rg hk fun _ q3=>gF 5 underlying64<|gB 2 underlying23<|gP (p_neq · h0 rfl rfl)<|ge q3 fun a w hk=>wc hk h (fun h hb=>?_) fun h hb=>?_
 ·refine wreg fun _ q4 => ?_
  refine lf hk (f_loadBlk hk h0 (j := 2) rfl rfl underlying64 rfl rfl rfl rfl) fun a w hk=>?_
  refine lf (y := .agg ((ApiValue.cells (⟨0, false, 0, 0, [], []⟩ : ApiValue)))) hk (f_buildN [] hk h0 rfl rfl rfl) fun a w hk=>?_
  refine st1 (cs' := (St12.cells v0)) hk rfl (by kernel_rfl) fun w hk => ?_
  refine st0 (cs' := (ApiValue.cells (⟨0, false, 0, 0, [], []⟩ : ApiValue))) hk rfl (by kernel_rfl) fun w hk => ?_
  refine go hk<|gA<|ge q4 fun a w hk=>?_
  refine wp_ret ?_
  obtain rfl := Option.some.inj h
  exact fretR3 hk rfl (rcell hk rfl (j := 1) rfl underlying64 rfl (by kernel_rfl)) (rcell hk rfl (j := 0) rfl underlying33 rfl (by kernel_rfl)) (rtmp hk rfl)
 refine wp_skip ?_
 refine q2 _ _ ?_
 refine rg hk fun _ q5=>gF 0 underlying64<|gB 2 underlying60<|gF 1 underlying64<|gB 2 underlying3<|fun a w hk=>?_
 obtain ⟨hc1, h⟩ := chk h
 refine lf (y := .ref (ApiWord.cells (List.getD v0.L (Int.toNat v0.I) default))) hk (f_indexAddr (R := r_ApiWord_cells) (f := ApiWord.cells) (l := v0.L) (sz := 5) r_ApiWord_cells_eq (fun _ => rfl) hk h0 rfl rfl underlying60 (by kernel_rfl) hc1) fun a w hk=>?_
 refine lf hk (f_load hk h0 rfl underlying66 rfl rfl rfl rfl) fun a w hk=>?_
 refine l_alloc (zs := (ApiWord.cells (⟨0, [], 0, 0, 0⟩ : ApiWord))) [] hk rfl rfl rfl rfl ?_; clear hk; intro bx4 a w hk
 refine st0 (cs' := (ApiWord.cells (List.getD v0.L (Int.toNat v0.I) default))) hk rfl (by kernel_rfl) fun w hk => ?_
 refine lend (q5 _ _ ?_)
 refine wreg fun _ q6 => ?_
 refine lf (y := .agg ((ApiValue.cells (⟨0, false, 0, 0, [], []⟩ : ApiValue)))) hk (f_buildN [] hk h0 rfl rfl rfl) fun a w hk=>?_
 refine l_alloc (zs := (ApiValue.cells (⟨0, false, 0, 0, [], []⟩ : ApiValue))) [] hk rfl rfl rfl rfl ?_; clear hk; intro bx5 a w hk
 refine st0 (cs' := (ApiValue.cells (⟨0, false, 0, 0, [], []⟩ : ApiValue))) hk rfl (by kernel_rfl) fun w hk => ?_
 refine go hk<|gA<|ge q6 fun a w hk=>?_
 refine wseqJ (fun a w => ∃ (y5 : ApiValue) (y1 : St12) (v7 : Bool), S M w0 a w 105 [blk bx5 33 ((ApiValue.cells y5)), blk bx3 33 ((ApiValue.cells (⟨0, false, 0, 0, [], []⟩ : ApiValue))), blk bx2 64 ((St12.cells (⟨[], 0, 0, 0, 0, 0⟩ : St12))), blk bx1 64 ((St12.cells y1))] [(1, [], .lit (.pointer (some ⟨bx1, 0, none⟩))), (2, [], .lit (.pointer (some ⟨bx2, 0, none⟩))), (3, [], .lit (.pointer (some ⟨bx3, 0, none⟩))), (6, [], .lit (.pointer (some ⟨bx5, 0, none⟩))), (7, [], .lit (.bool v7))] ∧ p12_value.j1 zv zvs K y5 y1 v7 = some r) ?_ ?_
 ·clear hk h
  rintro a w ⟨y5, y1, v7, hk, h⟩
  unfold p12_value.j1 at h
  refine wseqJ (fun a w => ∃ (y1 : St12) (v7 : Bool), S M w0 a w 105 [blk bx5 33 ((ApiValue.cells y5)), blk bx3 33 ((ApiValue.cells (⟨0, false, 0, 0, [], []⟩ : ApiValue))), blk bx2 64 ((St12.cells (⟨[], 0, 0, 0, 0, 0⟩ : St12))), blk bx1 64 ((St12.cells y1))] [(1, [], .lit (.pointer (some ⟨bx1, 0, none⟩))), (2, [], .lit (.pointer (some ⟨bx2, 0, none⟩))), (3, [], .lit (.pointer (some ⟨bx3, 0, none⟩))), (6, [], .lit (.pointer (some ⟨bx5, 0, none⟩))), (7, [], .lit (.bool v7))] ∧ p12_value.j2 zv zvs K y5 y1 v7 = some r) ?_ ?_
  ·clear hk h
   rintro a w ⟨y1, v7, hk, h⟩
   unfold p12_value.j2 at h
   refine wdrawE (.next [true, true, true, false, false, false] 3 [true, true, true, false, false, false] (.next [false, true, true, false, false, false] 4 [true, true, true, true, false, false] (.leaf [false, false, true, false, false, true]))) [(102, [], .agg ((St12.cells y1))), (103, [], .agg ((ApiValue.cells y5))), (104, [], .lit (.bool v7)), (105, [], .lit undef), (105, [], .lit undef), (4, [], .agg [])] (by kernel_rfl) (by kernel_rfl) (by kernel_rfl) (by kernel_rfl) hk ?_; clear hk
   refine gnext0 ?_ rfl rfl rfl ?_
   ·refine gfun (y := .agg ((St12.cells y1))) rfl rfl rfl rfl (fun a w hk => f_loadBlk hk h0 (j := 3) rfl rfl underlying64 rfl rfl rfl rfl) ?_
    refine gfun (y := .agg ((ApiValue.cells y5))) rfl rfl rfl rfl (fun a w hk => f_loadBlk hk h0 (j := 0) rfl rfl underlying33 rfl rfl rfl rfl) ?_
    refine gfun (y := .lit (.bool v7)) rfl rfl rfl rfl (fun a w hk => f_move hk h0 rfl) ?_
    refine gskip0 rfl ?_
    refine gskip0 rfl ?_
    refine gskip rfl rfl ?_
    exact gend
   ·intro σD a w opsD QD hk hQ hX
    refine st2 (cs' := (St12.cells y1)) hk rfl (by kernel_rfl) fun w hk => ?_
    refine hQ _ a w ?_ hk; clear hk hQ hX
    refine ⟨[(102, [], .agg ((St12.cells y1))), (103, [], .agg ((ApiValue.cells y5))), (104, [], .lit (.bool v7)), (105, [], .lit undef), (105, [], .lit undef), (4, [], .agg [])], And.intro rfl (And.intro rfl (And.intro rfl (trivial))), rfl, ?_⟩
    refine gnext0 ?_ rfl rfl rfl ?_
    ·refine gskip rfl rfl ?_
     refine gfun (y := .agg ((ApiValue.cells y5))) rfl rfl rfl rfl (fun a w hk => f_loadBlk hk h0 (j := 0) rfl rfl underlying33 rfl rfl rfl rfl) ?_
     refine gfun (y := .lit (.bool v7)) rfl rfl rfl rfl (fun a w hk => f_move hk h0 rfl) ?_
     refine gskip0 rfl ?_
     refine gskip0 rfl ?_
     refine gskip rfl rfl ?_
     exact gend
    ·intro σD a w opsD QD hk hQ hX
     refine st1 (cs' := (ApiValue.cells y5)) hk rfl (by kernel_rfl) fun w hk => ?_
     refine hQ _ a w ?_ hk; clear hk hQ hX
     refine ⟨[(102, [], .agg ((St12.cells y1))), (103, [], .agg ((ApiValue.cells y5))), (104, [], .lit (.bool v7)), (105, [], .lit undef), (105, [], .lit undef), (4, [], .lit (.bool v7))], And.intro rfl (And.intro rfl (And.intro rfl (And.intro rfl (trivial)))), rfl, ?_⟩
     refine glast ?_ ?_
     ·refine gskip rfl rfl ?_
      refine gskip rfl rfl ?_
      refine gfun (y := .lit (.bool v7)) rfl rfl rfl rfl (fun a w hk => f_move hk h0 rfl) ?_
      refine gskip0 rfl ?_
      refine gskip0 rfl ?_
      refine gfun (y := .lit (.bool v7)) rfl rfl rfl rfl (fun a w hk => f_assign hk h0 rfl) ?_
      exact gend
     ·intro a w hk; simp only [stD, cond_true] at hk
      refine wp_ret ?_
      obtain rfl := Option.some.inj h
      exact fretR3 hk rfl (rcell hk rfl (j := 2) rfl underlying64 rfl (by kernel_rfl)) (rcell hk rfl (j := 1) rfl underlying33 rfl (by kernel_rfl)) (rtmp hk rfl)
  ·intro K' q8
   refine rg hk fun _ q10=>gM<|ge q10 fun a w hk=>wc hk h (fun h hb=>?_) fun h hb=>?_
   ·refine rg1 hk<|gF 1 underlying64<|gB 3 underlying3<|gD<|gF 1 underlying64<|fun a w hk=>?_
    refine st3 (cs' := (St12.cells (⟨y1.L, (IntKind.wrap .i64 (y1.I + 1)), y1.Deep, y1.Steps, y1.At, y1.E⟩ : St12))) hk rfl (by kernel_rfl) fun w hk => ?_
    refine wpList_nil ?_
    exact q8 _ _ ⟨(⟨y1.L, (IntKind.wrap .i64 (y1.I + 1)), y1.Deep, y1.Steps, y1.At, y1.E⟩ : St12), v7, hk.sub ⟨rfl, rfl, rfl, rfl, rfl, trivial⟩, h⟩
   refine wp_skip ?_
   exact q8 _ _ ⟨y1, v7, hk.sub ⟨rfl, rfl, rfl, rfl, rfl, trivial⟩, h⟩
 ·intro K' q7
  refine wp_block ?_
  refine rg hk fun _ q12=>gF 0 underlying66<|gB 1 underlying3<|gE<|gA<|ge q12 fun a w hk=>wc hk h (fun h hb=>?_) fun h hb=>?_
  ·refine rg1 hk<|gF 2 underlying66<|gB 1 underlying2<|fun a w hk=>?_
   refine lf (y := .agg ((ApiValue.cells (⟨2, false, (List.getD v0.L (Int.toNat v0.I) default).N, 0, [], []⟩ : ApiValue)))) hk (f_buildN [] hk h0 rfl rfl rfl) fun a w hk=>?_
   refine st0 (cs' := (ApiValue.cells (⟨2, false, (List.getD v0.L (Int.toNat v0.I) default).N, 0, [], []⟩ : ApiValue))) hk rfl (by kernel_rfl) fun w hk => ?_
   refine wpList_nil ?_
   exact q7 _ _ ⟨(⟨2, false, (List.getD v0.L (Int.toNat v0.I) default).N, 0, [], []⟩ : ApiValue), v0, true, (hk.drop 1).sub ⟨rfl, rfl, rfl, rfl, rfl, trivial⟩, h⟩
  refine rg hk fun _ q14=>gF 0 underlying66<|gB 1 underlying3<|gE<|gA<|ge q14 fun a w hk=>wc hk h (fun h hb=>?_) fun h hb=>?_
  ·refine rg1 hk<|gF 3 underlying66<|gB 1 underlying30<|fun a w hk=>?_
   refine lf (y := .agg ((ApiValue.cells (⟨3, false, 0, (List.getD v0.L (Int.toNat v0.I) default).F, [], []⟩ : ApiValue)))) hk (f_buildN [] hk h0 rfl rfl rfl) fun a w hk=>?_
   refine st0 (cs' := (ApiValue.cells (⟨3, false, 0, (List.getD v0.L (Int.toNat v0.I) default).F, [], []⟩ : ApiValue))) hk rfl (by kernel_rfl) fun w hk => ?_
   refine wpList_nil ?_
   exact q7 _ _ ⟨(⟨3, false, 0, (List.getD v0.L (Int.toNat v0.I) default).F, [], []⟩ : ApiValue), v0, true, (hk.drop 1).sub ⟨rfl, rfl, rfl, rfl, rfl, trivial⟩, h⟩
  refine rg hk fun _ q16=>gF 0 underlying66<|gB 1 underlying3<|gE<|gA<|ge q16 fun a w hk=>wc hk h (fun h hb=>?_) fun h hb=>?_
  ·refine rg1 hk<|gF 1 underlying66<|gB 1 underlying9<|fun a w hk=>?_
   refine lf (y := .agg ((ApiValue.cells (⟨4, false, 0, 0, (List.getD v0.L (Int.toNat v0.I) default).S, []⟩ : ApiValue)))) hk (f_buildN [] hk h0 rfl rfl rfl) fun a w hk=>?_
   refine st0 (cs' := (ApiValue.cells (⟨4, false, 0, 0, (List.getD v0.L (Int.toNat v0.I) default).S, []⟩ : ApiValue))) hk rfl (by kernel_rfl) fun w hk => ?_
   refine wpList_nil ?_
   exact q7 _ _ ⟨(⟨4, false, 0, 0, (List.getD v0.L (Int.toNat v0.I) default).S, []⟩ : ApiValue), v0, true, (hk.drop 1).sub ⟨rfl, rfl, rfl, rfl, rfl, trivial⟩, h⟩
  refine rg hk fun _ q18=>gF 0 underlying66<|gB 1 underlying3<|gE<|gM<|fun a w hk=>?_
  refine lg (y := .lit (.pointer (some ⟨bx4, 1, none⟩))) hk rfl rfl rfl (fun hc => f_fieldPtr hk hc rfl underlying66 rfl (by kernel_rfl) rfl) fun a w hk=>?_
  refine lg hk rfl rfl rfl (fun hc => f_loadBlk1 hk hc (j := 1) rfl rfl underlying9 rfl rfl) fun a w hk=>?_
  refine lg hk rfl rfl rfl (fun hc => (f_pure (p_seql hk.kn hc rfl rfl))) fun a w hk=>?_
  refine go hk<|gN<|gA<|ge q18 fun a w hk=>wc hk h (fun h hb=>?_) fun h hb=>?_
  ·refine wreg1 ?_
   refine lf (y := .agg ((ApiValue.cells (⟨1, true, 0, 0, [], []⟩ : ApiValue)))) hk (f_buildN [] hk h0 rfl rfl rfl) fun a w hk=>?_
   refine st0 (cs' := (ApiValue.cells (⟨1, true, 0, 0, [], []⟩ : ApiValue))) hk rfl (by kernel_rfl) fun w hk => ?_
   refine wpList_nil ?_
   exact q7 _ _ ⟨(⟨1, true, 0, 0, [], []⟩ : ApiValue), v0, true, (hk.drop 1).sub ⟨rfl, rfl, rfl, rfl, rfl, trivial⟩, h⟩
  refine rg hk fun _ q20=>gF 0 underlying66<|gB 1 underlying3<|gE<|gM<|fun a w hk=>?_
  refine lg (y := .lit (.pointer (some ⟨bx4, 1, none⟩))) hk rfl rfl rfl (fun hc => f_fieldPtr hk hc rfl underlying66 rfl (by kernel_rfl) rfl) fun a w hk=>?_
  refine lg hk rfl rfl rfl (fun hc => f_loadBlk1 hk hc (j := 1) rfl rfl underlying9 rfl rfl) fun a w hk=>?_
  refine lg hk rfl rfl rfl (fun hc => (f_pure (p_seql hk.kn hc rfl rfl))) fun a w hk=>?_
  refine go hk<|gN<|gA<|ge q20 fun a w hk=>wc hk h (fun h hb=>?_) fun h hb=>?_
  ·refine wreg1 ?_
   refine lf (y := .agg ((ApiValue.cells (⟨1, false, 0, 0, [], []⟩ : ApiValue)))) hk (f_buildN [] hk h0 rfl rfl rfl) fun a w hk=>?_
   refine st0 (cs' := (ApiValue.cells (⟨1, false, 0, 0, [], []⟩ : ApiValue))) hk rfl (by kernel_rfl) fun w hk => ?_
   refine wpList_nil ?_
   exact q7 _ _ ⟨(⟨1, false, 0, 0, [], []⟩ : ApiValue), v0, true, (hk.drop 1).sub ⟨rfl, rfl, rfl, rfl, rfl, trivial⟩, h⟩
  refine rg hk fun _ q22=>gF 0 underlying66<|gB 1 underlying3<|gE<|gM<|fun a w hk=>?_
  refine lg (y := .lit (.pointer (some ⟨bx4, 1, none⟩))) hk rfl rfl rfl (fun hc => f_fieldPtr hk hc rfl underlying66 rfl (by kernel_rfl) rfl) fun a w hk=>?_
  refine lg hk rfl rfl rfl (fun hc => f_loadBlk1 hk hc (j := 1) rfl rfl underlying9 rfl rfl) fun a w hk=>?_
  refine lg hk rfl rfl rfl (fun hc => (f_pure (p_seql hk.kn hc rfl rfl))) fun a w hk=>?_
  refine go hk<|gN<|gA<|ge q22 fun a w hk=>wc hk h (fun h hb=>?_) fun h hb=>?_
  ·refine wp_skip ?_
   exact q7 _ _ ⟨(⟨0, false, 0, 0, [], []⟩ : ApiValue), v0, true, (hk.drop 1).sub ⟨rfl, rfl, rfl, rfl, rfl, trivial⟩, h⟩
  refine wreg fun _ q23 => ?_
  refine lf hk (f_loadBlk hk h0 (j := 4) rfl rfl underlying64 rfl rfl rfl rfl) fun a w hk=>?_
  obtain ⟨t1, hr_t1, h⟩ := bnd h
  refine lf (y := .lit (.bool t1)) hk (f_call hk h0 rfl rfl func51 rfl (by kernel_rfl) (p12_is.ok v0 ([91] : List UInt8) _ hr_t1)) fun a w hk=>?_
  refine go hk<|gA<|ge q23 fun a w hk=>wc hk h (fun h hb=>?_) fun h hb=>?_
  ·refine rg hk fun _ q24=>gF 1 underlying64<|gB 4 underlying3<|gD<|gF 1 underlying64<|fun a w hk=>?_
   refine st4 (cs' := (St12.cells (⟨v0.L, (IntKind.wrap .i64 (v0.I + 1)), v0.Deep, v0.Steps, v0.At, v0.E⟩ : St12))) hk rfl (by kernel_rfl) fun w hk => ?_
   refine lend (q24 _ _ ?_)
   refine rg hk fun _ q25=>gF 2 underlying64<|gB 4 underlying3<|gA<|ge q25 fun a w hk=>?_
   refine wreg fun _ q26 => ?_
   refine lf hk (f_loadBlk hk h0 (j := 4) rfl rfl underlying64 rfl rfl rfl rfl) fun a w hk=>?_
   obtain ⟨t2, hr_t2, h⟩ := bnd h
   refine lf (y := .agg ((St12.cells t2))) hk (f_call hk h0 rfl rfl func79 rfl (by kernel_rfl) (p12_into.ok (⟨v0.L, (IntKind.wrap .i64 (v0.I + 1)), v0.Deep, v0.Steps, v0.At, v0.E⟩ : St12) _ hr_t2)) fun a w hk=>?_
   refine st4 (cs' := (St12.cells t2)) hk rfl (by kernel_rfl) fun w hk => ?_
   refine lend (q26 _ _ ?_)
   refine wreg fun _ q27 => ?_
   refine lf hk (f_loadBlk hk h0 (j := 4) rfl rfl underlying64 rfl rfl rfl rfl) fun a w hk=>?_
   obtain ⟨t3, hr_t3, h⟩ := bnd h
   refine lf (y := .tup [.agg ((St12.cells t3.1)), .row (r_ApiValue_cells t3.2)]) hk (f_call hk h0 rfl rfl func108 rfl (by kernel_rfl) (hzvs t2 ([93] : List UInt8) _ hr_t3)) fun a w hk=>?_
   refine go hk<|gM<|fun a w hk=>?_
   refine go hk<|gX<|gX<|fun a w hk=>?_
   refine l_alloc (zs := (St12.cells (⟨[], 0, 0, 0, 0, 0⟩ : St12))) [] hk rfl rfl rfl rfl ?_; clear hk; intro bx6 a w hk
   refine st0 (cs' := (St12.cells t3.1)) hk rfl (by kernel_rfl) fun w hk => ?_
   refine go hk<|gA<|ge q27 fun a w hk=>?_
   refine rg hk fun _ q28=>gM<|gF 2 underlying64<|fun a w hk=>?_
   refine st0 (cs' := (St12.cells (⟨t3.1.L, t3.1.I, v0.Deep, t3.1.Steps, t3.1.At, t3.1.E⟩ : St12))) hk rfl (by kernel_rfl) fun w hk => ?_
   refine lend (q28 _ _ ?_)
   refine wdrawE (.next [true, true, true, true, true, true, false, false, false] 6 [true, true, true, true, true, true, false, false, false] (.next [false, true, true, true, true, true, false, false, false] 7 [true, true, true, true, true, true, true, false, false] (.leaf [false, false, false, true, true, true, false, false, true]))) [(91, [], .agg ((St12.cells (⟨t3.1.L, t3.1.I, v0.Deep, t3.1.Steps, t3.1.At, t3.1.E⟩ : St12)))), (92, [], .row (r_ApiValue_cells t3.2)), (93, [], .agg ((ApiValue.cells (⟨5, false, 0, 0, [], t3.2⟩ : ApiValue)))), (94, [], .lit (.pointer (some ⟨bx6, 5, none⟩))), (95, [], .lit (.int .i64 t3.1.E)), (96, [], .lit (.bool (decide (t3.1.E = 0)))), (105, [], .lit undef), (105, [], .lit undef), (4, [], .agg [])] (by kernel_rfl) (by kernel_rfl) (by kernel_rfl) (by kernel_rfl) hk ?_; clear hk
   refine gnext0 ?_ rfl rfl rfl ?_
   ·refine gfun (y := .agg ((St12.cells (⟨t3.1.L, t3.1.I, v0.Deep, t3.1.Steps, t3.1.At, t3.1.E⟩ : St12)))) rfl rfl rfl rfl (fun a w hk => f_loadBlk hk h0 (j := 0) rfl rfl underlying64 rfl rfl rfl rfl) ?_
    refine gfun (y := .row (r_ApiValue_cells t3.2)) rfl rfl rfl rfl (fun a w hk => f_move hk h0 rfl) ?_
    refine gfun (y := .agg ((ApiValue.cells (⟨5, false, 0, 0, [], t3.2⟩ : ApiValue)))) rfl rfl rfl rfl (fun a w hk => f_buildN [] hk h0 rfl rfl rfl) ?_
    refine gfun (y := .lit (.pointer (some ⟨bx6, 5, none⟩))) rfl rfl rfl rfl (fun a w hk => f_fieldPtr hk h0 rfl underlying64 rfl (by kernel_rfl) rfl) ?_
    refine gfun (y := .lit (.int .i64 t3.1.E)) rfl rfl rfl rfl (fun a w hk => f_loadBlk1 hk h0 (j := 0) rfl rfl underlying23 rfl rfl) ?_
    refine gfun (y := .lit (.bool (decide (t3.1.E = 0)))) rfl rfl rfl rfl (fun a w hk => (f_pure (p_eql hk.kn h0 rfl rfl))) ?_
    refine gskip0 rfl ?_
    refine gskip0 rfl ?_
    refine gskip rfl rfl ?_
    exact gend
   ·intro σD a w opsD QD hk hQ hX
    refine st4 (cs' := (St12.cells (⟨t3.1.L, t3.1.I, v0.Deep, t3.1.Steps, t3.1.At, t3.1.E⟩ : St12))) hk rfl (by kernel_rfl) fun w hk => ?_
    refine hQ _ a w ?_ hk; clear hk hQ hX
    refine ⟨[(91, [], .agg ((St12.cells (⟨t3.1.L, t3.1.I, v0.Deep, t3.1.Steps, t3.1.At, t3.1.E⟩ : St12)))), (92, [], .row (r_ApiValue_cells t3.2)), (93, [], .agg ((ApiValue.cells (⟨5, false, 0, 0, [], t3.2⟩ : ApiValue)))), (94, [], .lit (.pointer (some ⟨bx6, 5, none⟩))), (95, [], .lit (.int .i64 t3.1.E)), (96, [], .lit (.bool (decide (t3.1.E = 0)))), (105, [], .lit undef), (105, [], .lit undef), (4, [], .agg [])], And.intro rfl (And.intro rfl (And.intro rfl (And.intro rfl (And.intro rfl (And.intro rfl (trivial)))))), rfl, ?_⟩
    refine gnext0 ?_ rfl rfl rfl ?_
    ·refine gskip rfl rfl ?_
     refine gfun (y := .row (r_ApiValue_cells t3.2)) rfl rfl rfl rfl (fun a w hk => f_move hk h0 rfl) ?_
     refine gfun (y := .agg ((ApiValue.cells (⟨5, false, 0, 0, [], t3.2⟩ : ApiValue)))) rfl rfl rfl rfl (fun a w hk => f_buildN [] hk h0 rfl rfl rfl) ?_
     refine gfun (y := .lit (.pointer (some ⟨bx6, 5, none⟩))) rfl rfl rfl rfl (fun a w hk => f_fieldPtr hk h0 rfl underlying64 rfl (by kernel_rfl) rfl) ?_
     refine gfun (y := .lit (.int .i64 t3.1.E)) rfl rfl rfl rfl (fun a w hk => f_loadBlk1 hk h0 (j := 0) rfl rfl underlying23 rfl rfl) ?_
     refine gfun (y := .lit (.bool (decide (t3.1.E = 0)))) rfl rfl rfl rfl (fun a w hk => (f_pure (p_eql hk.kn h0 rfl rfl))) ?_
     refine gskip0 rfl ?_
     refine gskip0 rfl ?_
     refine gskip rfl rfl ?_
     exact gend
    ·intro σD a w opsD QD hk hQ hX
     refine st3 (cs' := (ApiValue.cells (⟨5, false, 0, 0, [], t3.2⟩ : ApiValue))) hk rfl (by kernel_rfl) fun w hk => ?_
     refine hQ _ a w ?_ hk; clear hk hQ hX
     refine ⟨[(91, [], .agg ((St12.cells (⟨t3.1.L, t3.1.I, v0.Deep, t3.1.Steps, t3.1.At, t3.1.E⟩ : St12)))), (92, [], .row (r_ApiValue_cells t3.2)), (93, [], .agg ((ApiValue.cells (⟨5, false, 0, 0, [], t3.2⟩ : ApiValue)))), (94, [], .lit (.pointer (some ⟨bx6, 5, none⟩))), (95, [], .lit (.int .i64 t3.1.E)), (96, [], .lit (.bool (decide (t3.1.E = 0)))), (105, [], .lit undef), (105, [], .lit undef), (4, [], .lit (.bool (decide (t3.1.E = 0))))], And.intro rfl (And.intro rfl (And.intro rfl (And.intro rfl (And.intro rfl (And.intro rfl (And.intro rfl (trivial))))))), rfl, ?_⟩
     refine glast ?_ ?_
     ·refine gskip rfl rfl ?_
      refine gskip rfl rfl ?_
      refine gskip rfl rfl ?_
      refine gfun (y := .lit (.pointer (some ⟨bx6, 5, none⟩))) rfl rfl rfl rfl (fun a w hk => f_fieldPtr hk h0 rfl underlying64 rfl (by kernel_rfl) rfl) ?_
      refine gfun (y := .lit (.int .i64 t3.1.E)) rfl rfl rfl rfl (fun a w hk => f_loadBlk1 hk h0 (j := 0) rfl rfl underlying23 rfl rfl) ?_
      refine gfun (y := .lit (.bool (decide (t3.1.E = 0)))) rfl rfl rfl rfl (fun a w hk => (f_pure (p_eql hk.kn h0 rfl rfl))) ?_
      refine gskip0 rfl ?_
      refine gskip0 rfl ?_
      refine gfun (y := .lit (.bool (decide (t3.1.E = 0)))) rfl rfl rfl rfl (fun a w hk => f_assign hk h0 rfl) ?_
      exact gend
     ·intro a w hk; simp only [stD, cond_true] at hk
      refine wp_ret ?_
      obtain rfl := Option.some.inj h
      exact fretR3 hk rfl (rcell hk rfl (j := 4) rfl underlying64 rfl (by kernel_rfl)) (rcell hk rfl (j := 3) rfl underlying33 rfl (by kernel_rfl)) (rtmp hk rfl)
  refine rg1 hk<|gA<|fun a w hk=>?_
  refine wpList_nil ?_
  exact q7 _ _ ⟨(⟨0, false, 0, 0, [], []⟩ : ApiValue), v0, false, (hk.drop 1).sub ⟨rfl, rfl, rfl, rfl, rfl, trivial⟩, h⟩
end Go.Proofs.Ytbjbgodcenopnaa
namespace Go.Proofs.Ytbjbgodcenopnaa
open FW _root_.Go.Proofs.Try
set_option linter.unusedVariables false
set_option maxRecDepth 20000
set_option maxHeartbeats 10000000
theorem p12_values.bok (zv : St12 → Option (St12 × ApiValue × Bool)) (zvs : St12 → List UInt8 → Option (St12 × List ApiValue)) (hzv : Zzv zv) (hzvs : Zzvs zvs) (K : Nat) (v0 : St12) (v1 : List UInt8) (r : St12 × List ApiValue) (h : p12_values.b zv zvs K v0 v1 = some r) :
  Ok prog 108 [.agg (St12.cells v0), .lit (.string (B v1))] (.tup [.agg (St12.cells r.1), .row (r_ApiValue_cells r.2)]) := by
 refine enter (xs := [.agg (St12.cells v0), .lit (.string (B v1))]) func108 rfl ntmps108 rfl ?_
 intro M w0 a hk
 unfold p12_values.b at h
 refine wreg fun _ q1 => ?_
 refine l_box (cs := (St12.cells v0)) hk rfl rfl rfl rfl rfl ?_; clear hk; intro bx1 a w hk
 refine l_alloc (zs := (St12.cells (⟨[], 0, 0, 0, 0, 0⟩ : St12))) [] hk rfl rfl rfl rfl ?_; clear hk; intro bx2 a w hk
 refine lf (y := .row (r_ApiValue_cells [])) hk (f_assignNil) fun a w hk=>?_
 refine lend (q1 _ _ ?_)
 refine wreg fun _ q2 => ?_
 refine l_buildSlice0 (f := ApiValue.cells) hk rfl rfl underlying31 rfl (fun _ => rfl) ?_; clear hk; intro bx3 a w hk
 refine go hk<|gA<|ge q2 fun a w hk=>?_
 refine wseq fun _ q3 => ?_
 refine wp_block ?_
 refine wloop (T := Nat × List ApiValue × St12 × List UInt8 × Option Addr × Nat) (fun x a w => match x with | (kl1, l3, y1, v1, xd3, xc3) => S M w0 a w 49 [orow xd3 xc3 33 6 ApiValue.cells l3, blk bx2 64 ((St12.cells (⟨[], 0, 0, 0, 0, 0⟩ : St12))), blk bx1 64 ((St12.cells y1))] [(1, [], .lit (.string (B v1))), (2, [], .lit (.pointer (some ⟨bx1, 0, none⟩))), (4, [], .lit (.pointer (some ⟨bx2, 0, none⟩))), (6, [], .lit (.slice xd3 (List.length l3) xc3))] ∧ p12_values.l1 zv zvs K kl1 l3 y1 v1 = some r) (fun x => x.1) (K, ([] : List ApiValue), v0, v1, (some ⟨bx3, 0, none⟩), 0) ⟨hk.sub ⟨rfl, rfl, rfl, rfl, trivial⟩, h⟩ ?_
 clear hk h
 rintro ⟨kl1, l3, y1, v1, xd3, xc3⟩ a w ⟨hk, h⟩ K' q4
 cases kl1 with
 | zero => simp [p12_values.l1] at h
 | succ kl1 =>
 rw [p12_values.l1.eq_2] at h
 refine wseq fun _ q5 => ?_
 refine rg hk fun _ q6=>gF 5 underlying64<|gB 2 underlying23<|gE<|gM<|fun a w hk=>?_
 refine lg hk rfl rfl rfl (fun hc => f_loadBlk hk hc (j := 2) rfl rfl underlying64 rfl rfl rfl rfl) fun a w hk=>?_
 refine go hk<|gm<|fun a w hk=>?_
 obtain ⟨t1, hr_t1, h⟩ := bndG h
 refine lg (y := .lit (.bool t1)) hk rfl rfl rfl (fun hc => f_call hk hc rfl rfl func51 rfl (by kernel_rfl) (p12_is.ok y1 v1 _ (hr_t1 (asm_out (p := (decide (y1.E = 0)) = true) hk.kn hc (fun e0 => e0))))) fun a w hk=>?_
 refine lg hk rfl rfl rfl (fun hc => (f_pure (p_not hk.kn hc rfl))) fun a w hk=>?_
 refine go hk<|gN<|ge q6 fun a w hk=>wc hk h (fun h hb=>?_) fun h hb=>?_
 ·refine wp_skip ?_
  refine q5 _ _ ?_
  refine wp_block ?_
  refine wseqJ (fun a w => ∃ (y1 : St12) (v1 : List UInt8), S M w0 a w 49 [orow xd3 xc3 33 6 ApiValue.cells l3, blk bx2 64 ((St12.cells (⟨[], 0, 0, 0, 0, 0⟩ : St12))), blk bx1 64 ((St12.cells y1))] [(1, [], .lit (.string (B v1))), (2, [], .lit (.pointer (some ⟨bx1, 0, none⟩))), (4, [], .lit (.pointer (some ⟨bx2, 0, none⟩))), (6, [], .lit (.slice xd3 (List.length l3) xc3))] ∧ p12_values.j1 zv zvs (p12_values.l1 zv zvs K kl1) K l3 y1 v1 = some r) ?_ ?_
  ·clear hk h
   rintro a w ⟨y1, v1, hk, h⟩
   unfold p12_values.j1 at h
   refine wseqJ (fun a w => ∃ (y1 : St12) (v1 : List UInt8), S M w0 a w 49 [orow xd3 xc3 33 6 ApiValue.cells l3, blk bx2 64 ((St12.cells (⟨[], 0, 0, 0, 0, 0⟩ : St12))), blk bx1 64 ((St12.cells y1))] [(1, [], .lit (.string (B v1))), (2, [], .lit (.pointer (some ⟨bx1, 0, none⟩))), (4, [], .lit (.pointer (some ⟨bx2, 0, none⟩))), (6, [], .lit (.slice xd3 (List.length l3) xc3))] ∧ p12_values.j2 zv zvs (p12_values.l1 zv zvs K kl1) K l3 y1 v1 = some r) ?_ ?_
   ·clear hk h
    rintro a w ⟨y1, v1, hk, h⟩
    unfold p12_values.j2 at h
    refine wreg fun _ q9 => ?_
    refine lf hk (f_loadBlk hk h0 (j := 2) rfl rfl underlying64 rfl rfl rfl rfl) fun a w hk=>?_
    obtain ⟨t2, hr_t2, h⟩ := bnd h
    refine lf (y := .tup [.agg ((St12.cells t2.1)), .agg ((ApiValue.cells t2.2.1)), .lit (.bool t2.2.2)]) hk (f_call hk h0 rfl rfl func76 rfl (by kernel_rfl) (hzv y1 _ hr_t2)) fun a w hk=>?_
    refine go hk<|gM<|fun a w hk=>?_
    refine go hk<|gX<|gX<|gX<|fun a w hk=>?_
    refine l_alloc (zs := (St12.cells (⟨[], 0, 0, 0, 0, 0⟩ : St12))) [] hk rfl rfl rfl rfl ?_; clear hk; intro bx4 a w hk
    refine l_alloc (zs := (ApiValue.cells (⟨0, false, 0, 0, [], []⟩ : ApiValue))) [] hk rfl rfl rfl rfl ?_; clear hk; intro bx5 a w hk
    refine st1 (cs' := (St12.cells t2.1)) hk rfl (by kernel_rfl) fun w hk => ?_
    refine st0 (cs' := (ApiValue.cells t2.2.1)) hk rfl (by kernel_rfl) fun w hk => ?_
    refine go hk<|gA<|ge q9 fun a w hk=>?_
    refine wreg fun _ q10 => ?_
    refine lf hk (f_loadBlk hk h0 (j := 1) rfl rfl underlying64 rfl rfl rfl rfl) fun a w hk=>?_
    refine st4 (cs' := (St12.cells t2.1)) hk rfl (by kernel_rfl) fun w hk => ?_
    refine lend (q10 _ _ ?_)
    refine wseqJ (fun a w => ∃ (y5 : ApiValue) (y1 : St12) (v1 : List UInt8), S M w0 a w 49 [blk bx5 33 ((ApiValue.cells y5)), orow xd3 xc3 33 6 ApiValue.cells l3, blk bx2 64 ((St12.cells (⟨[], 0, 0, 0, 0, 0⟩ : St12))), blk bx1 64 ((St12.cells y1))] [(1, [], .lit (.string (B v1))), (2, [], .lit (.pointer (some ⟨bx1, 0, none⟩))), (4, [], .lit (.pointer (some ⟨bx2, 0, none⟩))), (6, [], .lit (.slice xd3 (List.length l3) xc3)), (8, [], .lit (.pointer (some ⟨bx5, 0, none⟩)))] ∧ p12_values.j3 zv zvs (p12_values.l1 zv zvs K kl1) K l3 y5 y1 v1 = some r) ?_ ?_
    ·clear hk h
     rintro a w ⟨y5, y1, v1, hk, h⟩
     unfold p12_values.j3 at h
     refine rg1 hk<|gM<|fun a w hk=>?_
     refine lf hk (f_loadBlk hk h0 (j := 0) rfl rfl underlying33 rfl rfl rfl rfl) fun a w hk=>?_
     refine l_buildSlice (f := ApiValue.cells) (l := ([y5] : List ApiValue)) hk rfl rfl rfl underlying31 rfl rfl rfl rfl (fun _ => rfl) rfl ?_; clear hk; intro bx6 a w hk
     obtain ⟨hc1, h⟩ := chk h
     refine l_append (l2 := ([y5] : List ApiValue)) (l3 := (l3 ++ ([y5] : List ApiValue))) (I' := fun ad1 cap1 => [orow (some ⟨bx6, 0, none⟩) 1 33 6 ApiValue.cells ([y5] : List ApiValue), blk bx5 33 ((ApiValue.cells y5)), orow ad1 cap1 33 6 ApiValue.cells (l3 ++ ([y5] : List ApiValue)), blk bx2 64 ((St12.cells (⟨[], 0, 0, 0, 0, 0⟩ : St12))), blk bx1 64 ((St12.cells y1))]) (j := 2) hk rfl rfl rfl rfl (own_src hk (j := 0) rfl rfl (fun _ => rfl) underlying31) underlying31 (by kernel_rfl) hc1 rfl (fun _ _ => rfl) ?_; clear hk; intro ad1 cap1 a w hk
     replace hk := S.dropI (I' := [blk bx5 33 ((ApiValue.cells y5)), orow ad1 cap1 33 6 ApiValue.cells (l3 ++ ([y5] : List ApiValue)), blk bx2 64 ((St12.cells (⟨[], 0, 0, 0, 0, 0⟩ : St12))), blk bx1 64 ((St12.cells y1))]) hk 0 rfl
     refine go hk<|gA<|fun a w hk=>?_
     refine wpList_nil ?_
     exact q4 (kl1, (l3 ++ ([y5] : List ApiValue)), y1, v1, ad1, cap1) _ _ (Nat.lt_succ_self _) ⟨(hk.drop 0).sub ⟨rfl, rfl, rfl, rfl, trivial⟩, h⟩
    ·intro K' q11
     refine rg hk fun _ q13=>gM<|gP (p_not · h0 rfl)<|ge q13 fun a w hk=>wc hk h (fun h hb=>?_) fun h hb=>?_
     ·refine wreg1 ?_
      refine lf hk (f_loadBlk hk h0 (j := 4) rfl rfl underlying64 rfl rfl rfl rfl) fun a w hk=>?_
      obtain ⟨t3, hr_t3, h⟩ := bnd h
      refine lf (y := .agg ((St12.cells t3))) hk (f_call hk h0 rfl rfl func28 rfl (by kernel_rfl) (p12_fail.ok t2.1 120 _ hr_t3)) fun a w hk=>?_
      refine st4 (cs' := (St12.cells t3)) hk rfl (by kernel_rfl) fun w hk => ?_
      refine wpList_nil ?_
      exact q11 _ _ ⟨t2.2.1, t3, v1, (hk.drop 1).sub ⟨rfl, rfl, rfl, rfl, rfl, trivial⟩, h⟩
     refine wp_skip ?_
     exact q11 _ _ ⟨t2.2.1, t2.1, v1, (hk.drop 1).sub ⟨rfl, rfl, rfl, rfl, rfl, trivial⟩, h⟩
   ·intro K' q8
    refine rg hk fun _ q15=>gM<|gP (p_len underlying31 · h0 rfl)<|gP (p_geq · h0 rfl rfl)<|ge q15 fun a w hk=>wc hk h (fun h hb=>?_) fun h hb=>?_
    ·refine wreg1 ?_
     refine lf hk (f_loadBlk hk h0 (j := 2) rfl rfl underlying64 rfl rfl rfl rfl) fun a w hk=>?_
     obtain ⟨t4, hr_t4, h⟩ := bnd h
     refine lf (y := .agg ((St12.cells t4))) hk (f_call hk h0 rfl rfl func28 rfl (by kernel_rfl) (p12_fail.ok y1 3 _ hr_t4)) fun a w hk=>?_
     refine st2 (cs' := (St12.cells t4)) hk rfl (by kernel_rfl) fun w hk => ?_
     refine wpList_nil ?_
     exact q8 _ _ ⟨t4, v1, hk.sub ⟨rfl, rfl, rfl, rfl, trivial⟩, h⟩
    refine wp_skip ?_
    exact q8 _ _ ⟨y1, v1, hk.sub ⟨rfl, rfl, rfl, rfl, trivial⟩, h⟩
  ·intro K' q7
   refine rg hk fun _ q17=>gM<|gP (p_len underlying31 · h0 rfl)<|gP (p_gtr · h0 rfl rfl)<|ge q17 fun a w hk=>wc hk h (fun h hb=>?_) fun h hb=>?_
   ·refine wreg1 ?_
    refine lf hk (f_loadBlk hk h0 (j := 2) rfl rfl underlying64 rfl rfl rfl rfl) fun a w hk=>?_
    obtain ⟨t5, hr_t5, h⟩ := bnd h
    refine lf (y := .agg ((St12.cells t5))) hk (f_call hk h0 rfl rfl func26 rfl (by kernel_rfl) (p12_sign.ok y1 ([44] : List UInt8) _ hr_t5)) fun a w hk=>?_
    refine st2 (cs' := (St12.cells t5)) hk rfl (by kernel_rfl) fun w hk => ?_
    refine wpList_nil ?_
    exact q7 _ _ ⟨t5, v1, hk.sub ⟨rfl, rfl, rfl, rfl, trivial⟩, h⟩
   refine wp_skip ?_
   exact q7 _ _ ⟨y1, v1, hk.sub ⟨rfl, rfl, rfl, rfl, trivial⟩, h⟩
 refine wp_exit ?_; (repeat first | refine te ?_ | refine be rfl ?_); refine bx ?_
 refine q3 _ _ ?_
 refine wreg fun _ q19 => ?_
 refine lf hk (f_loadBlk hk h0 (j := 2) rfl rfl underlying64 rfl rfl rfl rfl) fun a w hk=>?_
 refine go hk<|gM<|fun a w hk=>?_
 obtain ⟨t6, hr_t6, h⟩ := bnd h
 refine lf (y := .agg ((St12.cells t6))) hk (f_call hk h0 rfl rfl func26 rfl (by kernel_rfl) (p12_sign.ok y1 v1 _ hr_t6)) fun a w hk=>?_
 refine go hk<|gM<|fun a w hk=>?_
 refine st1 (cs' := (St12.cells t6)) hk rfl (by kernel_rfl) fun w hk => ?_
 refine go hk<|gA<|ge q19 fun a w hk=>?_
 refine wp_ret ?_
 replace hk := S.freezeR (I' := [blk bx2 64 ((St12.cells t6)), blk bx1 64 ((St12.cells y1))]) r_ApiValue_cells_eq hk (j := 0) rfl (t := 5) rfl rfl
 obtain rfl := Option.some.inj h
 exact fretR2 hk rfl (rcell hk rfl (j := 0) rfl underlying64 rfl (by kernel_rfl)) (rtmp hk rfl)
theorem p12_value_knot : ∀ K : Nat, (∀ (v0 : St12) (r : St12 × ApiValue × Bool), p12_value.f K v0 = some r → Ok prog 76 [.agg (St12.cells v0)] (.tup [.agg (St12.cells r.1), .agg (ApiValue.cells r.2.1), .lit (.bool r.2.2)])) ∧ (∀ (v0 : St12) (v1 : List UInt8) (r : St12 × List ApiValue), p12_values.f K v0 v1 = some r → Ok prog 108 [.agg (St12.cells v0), .lit (.string (B v1))] (.tup [.agg (St12.cells r.1), .row (r_ApiValue_cells r.2)]))
 | 0 => ⟨fun v0 r h => by simp [p12_value.f] at h, fun v0 v1 r h => by simp [p12_values.f] at h⟩
 | K + 1 => ⟨fun v0 r h => by rw [p12_value.f] at h; exact p12_value.bok _ _ (p12_value_knot K).1 (p12_value_knot K).2 K v0 r h, fun v0 v1 r h => by rw [p12_values.f] at h; exact p12_values.bok _ _ (p12_value_knot K).1 (p12_value_knot K).2 K v0 v1 r h⟩
theorem p12_value.ok (K : Nat) (v0 : St12) (r : St12 × ApiValue × Bool) (h : p12_value.f K v0 = some r) : Ok prog 76 [.agg (St12.cells v0)] (.tup [.agg (St12.cells r.1), .agg (ApiValue.cells r.2.1), .lit (.bool r.2.2)]) := (p12_value_knot K).1 v0 r h
theorem p12_values.ok (K : Nat) (v0 : St12) (v1 : List UInt8) (r : St12 × List ApiValue) (h : p12_values.f K v0 v1 = some r) : Ok prog 108 [.agg (St12.cells v0), .lit (.string (B v1))] (.tup [.agg (St12.cells r.1), .row (r_ApiValue_cells r.2)]) := (p12_value_knot K).2 v0 v1 r h
theorem r12_Preds.ok (K : Nat) (v0 : List UInt8) (r : Int × Bool) (h : r12_Preds.f K v0 = some r) :
  Ok prog 77 [.lit (.string (B v0))] (.tup [.lit (.int .i64 r.1), .lit (.bool r.2)]) := by
 refine enter (xs := [.lit (.string (B v0))]) func77 rfl ntmps77 rfl ?_
 intro M w0 a hk
 unfold r12_Preds.f at h
 refine rg hk fun _ q1=>gA<|gA<|ge q1 fun a w hk=>?_
 refine wreg fun _ q2 => ?_
 refine l_buildSlice (f := c_str) (l := ([([101, 113] : List UInt8), ([110, 101, 113] : List UInt8), ([108, 116] : List UInt8), ([108, 116, 101] : List UInt8), ([103, 116] : List UInt8), ([103, 116, 101] : List UInt8), ([115, 116, 97, 114, 116, 105, 110, 103, 87, 105, 116, 104] : List UInt8), ([101, 110, 100, 105, 110, 103, 87, 105, 116, 104] : List UInt8), ([99, 111, 110, 116, 97, 105, 110, 105, 110, 103] : List UInt8)] : List (List UInt8))) hk rfl rfl rfl underlying56 rfl rfl rfl rfl (fun _ => rfl) rfl ?_; clear hk; intro bx1 a w hk
 replace hk := (S.freezeR (I' := []) r_c_str_eq hk (j := 0) rfl (t := 6) rfl rfl).squash
 refine go hk<|gA<|ge q2 fun a w hk=>?_
 refine wseq fun _ q3 => ?_
 refine rg hk fun _ q4=>gA<|ge q4 fun a w hk=>?_
 refine wp_block ?_
 refine wloop (T := Nat × List UInt8 × List (List UInt8) × Int) (fun x a w => match x with | (kl1, v0, v4, v5) => S M w0 a w 35 [] [(0, [], .lit (.string (B v0))), (4, [], .row (r_c_str v4)), (5, [], .lit (.int .i64 v5))] ∧ r12_Preds.l1 K kl1 v0 v4 v5 = some r) (fun x => x.1) (K, v0, ([([101, 113] : List UInt8), ([110, 101, 113] : List UInt8), ([108, 116] : List UInt8), ([108, 116, 101] : List UInt8), ([103, 116] : List UInt8), ([103, 116, 101] : List UInt8), ([115, 116, 97, 114, 116, 105, 110, 103, 87, 105, 116, 104] : List UInt8), ([101, 110, 100, 105, 110, 103, 87, 105, 116, 104] : List UInt8), ([99, 111, 110, 116, 97, 105, 110, 105, 110, 103] : List UInt8)] : List (List UInt8)), 0) ⟨hk.sub ⟨rfl, rfl, rfl, trivial⟩, h⟩ ?_
 clear hk h
 rintro ⟨kl1, v0, v4, v5⟩ a w ⟨hk, h⟩ K' q5
 cases kl1 with
 | zero => simp [r12_Preds.l1] at h
 | succ kl1 =>
 rw [r12_Preds.l1.eq_2] at h
 refine wseq fun _ q6 => ?_
 refine rg hk fun _ q7=>gM<|gM<|fun a w hk=>?_
 refine lf hk (f_len (R := r_c_str) (f := c_str) (l := v4) r_c_str_eq underlying56 hk h0 rfl) fun a w hk=>?_
 refine go hk<|gL<|ge q7 fun a w hk=>wc hk h (fun h hb=>?_) fun h hb=>?_
 ·refine wp_skip ?_
  refine q6 _ _ ?_
  refine wseq fun _ q8 => ?_
  refine wp_block ?_
  refine rg hk fun _ q9=>gM<|gM<|fun a w hk=>?_
  obtain ⟨hc1, h⟩ := chk h
  refine lf (y := .ref (c_str (List.getD v4 (Int.toNat v5) default))) hk (f_indexAddr (R := r_c_str) (f := c_str) (l := v4) (sz := 1) r_c_str_eq (fun _ => rfl) hk h0 rfl rfl underlying56 (by kernel_rfl) hc1) fun a w hk=>?_
  refine lf hk (f_load1 hk h0 rfl rfl underlying9 rfl) fun a w hk=>?_
  refine go hk<|gM<|gS<|ge q9 fun a w hk=>wc hk h (fun h hb=>?_) fun h hb=>?_
  ·refine rg hk fun _ q10=>gA<|gA<|ge q10 fun a w hk=>?_
   refine wp_ret ?_
   obtain rfl := Option.some.inj h
   exact fret2 hk rfl rfl rfl
  refine wp_skip ?_
  refine q8 _ _ ?_
  refine rg1 hk<|gM<|gD<|gA<|fun a w hk=>?_
  refine wpList_nil ?_
  exact q5 (kl1, v0, v4, (IntKind.wrap .i64 (v5 + 1))) _ _ (Nat.lt_succ_self _) ⟨hk.sub ⟨rfl, rfl, rfl, trivial⟩, h⟩
 refine wp_exit ?_; (repeat first | refine te ?_ | refine be rfl ?_); refine bx ?_
 refine q3 _ _ ?_
 refine wseq fun _ q12 => ?_
 refine rg hk fun _ q13=>gM<|gS<|gM<|gm<|fun a w hk=>?_
 refine lg hk rfl rfl rfl (fun hc => (f_pure (p_seql hk.kn hc rfl rfl))) fun a w hk=>?_
 refine go hk<|gR<|gM<|gm<|fun a w hk=>?_
 refine lg hk rfl rfl rfl (fun hc => (f_pure (p_seql hk.kn hc rfl rfl))) fun a w hk=>?_
 refine go hk<|gR<|ge q13 fun a w hk=>wc hk h (fun h hb=>?_) fun h hb=>?_
 ·refine rg hk fun _ q14=>gA<|gA<|ge q14 fun a w hk=>?_
  refine wp_ret ?_
  obtain rfl := Option.some.inj h
  exact fret2 hk rfl rfl rfl
 refine wp_skip ?_
 refine q12 _ _ ?_
 refine rg hk fun _ q15=>gM<|gS<|gM<|gm<|fun a w hk=>?_
 refine lg hk rfl rfl rfl (fun hc => (f_pure (p_seql hk.kn hc rfl rfl))) fun a w hk=>?_
 refine go hk<|gR<|gA<|gA<|ge q15 fun a w hk=>?_
 refine wp_ret ?_
 obtain rfl := Option.some.inj h
 exact fret2 hk rfl rfl rfl
end Go.Proofs.Ytbjbgodcenopnaa
namespace Go.Proofs.Ytbjbgodcenopnaa
open FW _root_.Go.Proofs.Try
set_option linter.unusedVariables false
set_option maxRecDepth 20000
set_option maxHeartbeats 10000000
abbrev Zzpr (zpr : St12 → Option (St12 × ApiPred)) : Prop := ∀ (v0 : St12) (r : St12 × ApiPred), zpr v0 = some r → Ok prog 78 [.agg (St12.cells v0)] (.tup [.agg (St12.cells r.1), .agg (ApiPred.cells r.2)])
theorem p12_pred.bok (zpr : St12 → Option (St12 × ApiPred)) (hzpr : Zzpr zpr) (K : Nat) (v0 : St12) (r : St12 × ApiPred) (h : p12_pred.b zpr K v0 = some r) :
  Ok prog 78 [.agg (St12.cells v0)] (.tup [.agg (St12.cells r.1), .agg (ApiPred.cells r.2)]) := by
 refine enter (xs := [.agg (St12.cells v0)]) func78 rfl ntmps78 rfl ?_
 intro M w0 a hk
 unfold p12_pred.b at h
 refine wreg fun _ q1 => ?_
 refine l_box (cs := (St12.cells v0)) hk rfl rfl rfl rfl rfl ?_; clear hk; intro bx1 a w hk
 refine l_alloc (zs := (St12.cells (⟨[], 0, 0, 0, 0, 0⟩ : St12))) [] hk rfl rfl rfl rfl ?_; clear hk; intro bx2 a w hk
 refine l_alloc (zs := (ApiPred.cells (⟨[], [], []⟩ : ApiPred))) [] hk rfl rfl rfl rfl ?_; clear hk; intro bx3 a w hk
 refine lend (q1 _ _ ?_)
 refine wreg fun _ q2 => ?_
 refine lf hk (f_loadBlk hk h0 (j := 2) rfl rfl underlying64 rfl rfl rfl rfl) fun a w hk=>?_
 refine l_alloc (zs := (St12.cells (⟨[], 0, 0, 0, 0, 0⟩ : St12))) [] hk rfl rfl rfl rfl ?_; clear hk; intro bx4 a w hk
 refine st0 (cs' := (St12.cells v0)) hk rfl (by kernel_rfl) fun w hk => ?_
 refine lend (q2 _ _ ?_)
 refine wseq fun _ q3 => ?_
 refine rg hk fun _ q4=>gF 5 underlying64<|gB 3 underlying23<|gP (p_neq · h0 rfl rfl)<|gM<|fun a w hk=>?_
 refine lg (y := .lit (.pointer (some ⟨bx1, 0, none⟩))) hk rfl rfl rfl (fun hc => f_fieldPtr hk hc rfl underlying64 rfl (by kernel_rfl) rfl) fun a w hk=>?_
 refine lg hk rfl rfl rfl (fun hc => f_loadBlk1 hk hc (j := 3) rfl rfl underlying60 rfl rfl) fun a w hk=>?_
 refine lg (y := .lit (.pointer (some ⟨bx1, 1, none⟩))) hk rfl rfl rfl (fun hc => f_fieldPtr hk hc rfl underlying64 rfl (by kernel_rfl) rfl) fun a w hk=>?_
 refine lg hk rfl rfl rfl (fun hc => f_loadBlk1 hk hc (j := 3) rfl rfl underlying3 rfl rfl) fun a w hk=>?_
 obtain ⟨hc1, h⟩ := chk h
 refine lg (y := .ref (ApiWord.cells (List.getD v0.L (Int.toNat v0.I) default))) hk rfl rfl rfl (fun hc => f_indexAddr (R := r_ApiWord_cells) (f := ApiWord.cells) (l := v0.L) (sz := 5) r_ApiWord_cells_eq (fun _ => rfl) hk hc rfl rfl underlying60 (by kernel_rfl) hc1) fun a w hk=>?_
 refine lg hk rfl rfl rfl (fun hc => f_fieldAddr hk hc rfl underlying66 rfl (by kernel_rfl) rfl) fun a w hk=>?_
 refine lg hk rfl rfl rfl (fun hc => f_load1 hk hc rfl rfl underlying3 rfl) fun a w hk=>?_
 refine lg hk rfl rfl rfl (fun hc => (f_pure (p_neq hk.kn hc rfl rfl))) fun a w hk=>?_
 refine go hk<|gR<|ge q4 fun a w hk=>wc hk h (fun h hb=>?_) fun h hb=>?_
 ·refine wreg fun _ q5 => ?_
  refine lf hk (f_loadBlk hk h0 (j := 3) rfl rfl underlying64 rfl rfl rfl rfl) fun a w hk=>?_
  obtain ⟨t1, hr_t1, h⟩ := bnd h
  refine lf (y := .agg ((St12.cells t1))) hk (f_call hk h0 rfl rfl func28 rfl (by kernel_rfl) (p12_fail.ok v0 120 _ hr_t1)) fun a w hk=>?_
  refine lf (y := .agg ((ApiPred.cells (⟨[], [], []⟩ : ApiPred)))) hk (f_buildN [] hk h0 rfl rfl rfl) fun a w hk=>?_
  refine st2 (cs' := (St12.cells t1)) hk rfl (by kernel_rfl) fun w hk => ?_
  refine st1 (cs' := (ApiPred.cells (⟨[], [], []⟩ : ApiPred))) hk rfl (by kernel_rfl) fun w hk => ?_
  refine lend (q5 _ _ ?_)
  refine wp_ret ?_
  obtain rfl := Option.some.inj h
  exact fretR2 hk rfl (rcell hk rfl (j := 2) rfl underlying64 rfl (by kernel_rfl)) (rcell hk rfl (j := 1) rfl underlying36 rfl (by kernel_rfl))
 refine wp_skip ?_
 refine q3 _ _ ?_
 refine rg hk fun _ q6=>gF 0 underlying64<|gB 3 underlying60<|gF 1 underlying64<|gB 3 underlying3<|fun a w hk=>?_
 obtain ⟨hc2, h⟩ := chk h
 refine lf (y := .ref (ApiWord.cells (List.getD v0.L (Int.toNat v0.I) default))) hk (f_indexAddr (R := r_ApiWord_cells) (f := ApiWord.cells) (l := v0.L) (sz := 5) r_ApiWord_cells_eq (fun _ => rfl) hk h0 rfl rfl underlying60 (by kernel_rfl) hc2) fun a w hk=>?_
 refine lf hk (f_fieldAddr hk h0 rfl underlying66 rfl (by kernel_rfl) rfl) fun a w hk=>?_
 refine lf hk (f_load1 hk h0 rfl rfl underlying9 rfl) fun a w hk=>?_
 obtain ⟨t2, hr_t2, h⟩ := bnd h
 refine lf (y := .tup [.lit (.int .i64 t2.1), .lit (.bool t2.2)]) hk (f_call hk h0 rfl rfl func77 rfl (by kernel_rfl) (r12_Preds.ok K ((List.getD v0.L (Int.toNat v0.I) default).S) _ hr_t2)) fun a w hk=>?_
 refine go hk<|gM<|fun a w hk=>?_
 refine go hk<|gX<|gX<|gA<|gA<|ge q6 fun a w hk=>?_
 refine wseq fun _ q7 => ?_
 refine rg hk fun _ q8=>gM<|gP (p_not · h0 rfl)<|ge q8 fun a w hk=>wc hk h (fun h hb=>?_) fun h hb=>?_
 ·refine wreg fun _ q9 => ?_
  refine lf hk (f_loadBlk hk h0 (j := 3) rfl rfl underlying64 rfl rfl rfl rfl) fun a w hk=>?_
  obtain ⟨t3, hr_t3, h⟩ := bnd h
  refine lf (y := .agg ((St12.cells t3))) hk (f_call hk h0 rfl rfl func28 rfl (by kernel_rfl) (p12_fail.ok v0 120 _ hr_t3)) fun a w hk=>?_
  refine lf (y := .agg ((ApiPred.cells (⟨[], [], []⟩ : ApiPred)))) hk (f_buildN [] hk h0 rfl rfl rfl) fun a w hk=>?_
  refine st2 (cs' := (St12.cells t3)) hk rfl (by kernel_rfl) fun w hk => ?_
  refine st1 (cs' := (ApiPred.cells (⟨[], [], []⟩ : ApiPred))) hk rfl (by kernel_rfl) fun w hk => ?_
  refine lend (q9 _ _ ?_)
  refine wp_ret ?_
  obtain rfl := Option.some.inj h
  exact fretR2 hk rfl (rcell hk rfl (j := 2) rfl underlying64 rfl (by kernel_rfl)) (rcell hk rfl (j := 1) rfl underlying36 rfl (by kernel_rfl))
 refine wp_skip ?_
 refine q7 _ _ ?_
 refine rg hk fun _ q10=>gF 0 underlying64<|gB 3 underlying60<|gF 1 underlying64<|gB 3 underlying3<|fun a w hk=>?_
 obtain ⟨hc3, h⟩ := chk h
 refine lf (y := .ref (ApiWord.cells (List.getD v0.L (Int.toNat v0.I) default))) hk (f_indexAddr (R := r_ApiWord_cells) (f := ApiWord.cells) (l := v0.L) (sz := 5) r_ApiWord_cells_eq (fun _ => rfl) hk h0 rfl rfl underlying60 (by kernel_rfl) hc3) fun a w hk=>?_
 refine lf hk (f_fieldAddr hk h0 rfl underlying66 rfl (by kernel_rfl) rfl) fun a w hk=>?_
 refine lf hk (f_load1 hk h0 rfl rfl underlying9 rfl) fun a w hk=>?_
 refine lf (y := .agg ((ApiPred.cells (⟨(List.getD v0.L (Int.toNat v0.I) default).S, [], []⟩ : ApiPred)))) hk (f_buildN [] hk h0 rfl rfl rfl) fun a w hk=>?_
 refine l_alloc (zs := (ApiPred.cells (⟨[], [], []⟩ : ApiPred))) [] hk rfl rfl rfl rfl ?_; clear hk; intro bx5 a w hk
 refine st0 (cs' := (ApiPred.cells (⟨(List.getD v0.L (Int.toNat v0.I) default).S, [], []⟩ : ApiPred))) hk rfl (by kernel_rfl) fun w hk => ?_
 refine lend (q10 _ _ ?_)
 refine rg hk fun _ q11=>gF 1 underlying64<|gB 4 underlying3<|gD<|gF 1 underlying64<|fun a w hk=>?_
 refine st4 (cs' := (St12.cells (⟨v0.L, (IntKind.wrap .i64 (v0.I + 1)), v0.Deep, v0.Steps, v0.At, v0.E⟩ : St12))) hk rfl (by kernel_rfl) fun w hk => ?_
 refine lend (q11 _ _ ?_)
 refine wreg fun _ q12 => ?_
 refine lf hk (f_loadBlk hk h0 (j := 4) rfl rfl underlying64 rfl rfl rfl rfl) fun a w hk=>?_
 obtain ⟨t4, hr_t4, h⟩ := bnd h
 refine lf (y := .agg ((St12.cells t4))) hk (f_call hk h0 rfl rfl func26 rfl (by kernel_rfl) (p12_sign.ok (⟨v0.L, (IntKind.wrap .i64 (v0.I + 1)), v0.Deep, v0.Steps, v0.At, v0.E⟩ : St12) ([40] : List UInt8) _ hr_t4)) fun a w hk=>?_
 obtain ⟨t5, hr_t5, h⟩ := bnd h
 refine lf (y := .agg ((St12.cells t5))) hk (f_call hk h0 rfl rfl func79 rfl (by kernel_rfl) (p12_into.ok t4 _ hr_t5)) fun a w hk=>?_
 refine st4 (cs' := (St12.cells t5)) hk rfl (by kernel_rfl) fun w hk => ?_
 refine lend (q12 _ _ ?_)
 refine wreg fun _ q13 => ?_
 refine lf hk (f_loadBlk hk h0 (j := 4) rfl rfl underlying64 rfl rfl rfl rfl) fun a w hk=>?_
 obtain ⟨t6, hr_t6, h⟩ := bnd h
 refine lf (y := .tup [.agg ((St12.cells t6.1)), .row (r_ApiValue_cells t6.2)]) hk (f_call hk h0 rfl rfl func108 rfl (by kernel_rfl) (p12_values.ok K t5 ([41] : List UInt8) _ hr_t6)) fun a w hk=>?_
 refine go hk<|gM<|fun a w hk=>?_
 refine go hk<|gX<|gX<|fun a w hk=>?_
 refine st4 (cs' := (St12.cells t6.1)) hk rfl (by kernel_rfl) fun w hk => ?_
 refine go hk<|gF 1 underlying36<|fun a w hk=>?_
 refine st0 (cs' := (ApiPred.cells (⟨(List.getD v0.L (Int.toNat v0.I) default).S, t6.2, []⟩ : ApiPred))) hk rfl (by kernel_rfl) fun w hk => ?_
 refine lend (q13 _ _ ?_)
 refine rg hk fun _ q14=>gF 2 underlying64<|gB 1 underlying3<|gF 2 underlying64<|fun a w hk=>?_
 refine st4 (cs' := (St12.cells (⟨t6.1.L, t6.1.I, v0.Deep, t6.1.Steps, t6.1.At, t6.1.E⟩ : St12))) hk rfl (by kernel_rfl) fun w hk => ?_
 refine lend (q14 _ _ ?_)
 refine wseq fun _ q15 => ?_
 refine rg hk fun _ q16=>gF 5 underlying64<|gB 4 underlying23<|gE<|gM<|gm<|fun a w hk=>?_
 refine lg hk rfl rfl rfl (fun hc => (f_pure (p_geq hk.kn hc rfl rfl))) fun a w hk=>?_
 refine go hk<|gN<|gM<|fun a w hk=>?_
 refine lg (y := .lit (.pointer (some ⟨bx5, 1, none⟩))) hk rfl rfl rfl (fun hc => f_fieldPtr hk hc rfl underlying36 rfl (by kernel_rfl) rfl) fun a w hk=>?_
 refine lg hk rfl rfl rfl (fun hc => f_loadBlk1 hk hc (j := 0) rfl rfl underlying31 rfl rfl) fun a w hk=>?_
 refine lg hk rfl rfl rfl (fun hc => f_len (R := r_ApiValue_cells) (f := ApiValue.cells) (l := t6.2) r_ApiValue_cells_eq underlying31 hk hc rfl) fun a w hk=>?_
 refine go hk<|gm<|fun a w hk=>?_
 refine lg hk rfl rfl rfl (fun hc => (f_pure (p_neq hk.kn hc rfl rfl))) fun a w hk=>?_
 refine go hk<|gN<|ge q16 fun a w hk=>wc hk h (fun h hb=>?_) fun h hb=>?_
 ·refine wreg fun _ q17 => ?_
  refine lf hk (f_loadBlk hk h0 (j := 1) rfl rfl underlying64 rfl rfl rfl rfl) fun a w hk=>?_
  obtain ⟨t7, hr_t7, h⟩ := bnd h
  refine lf (y := .agg ((St12.cells t7))) hk (f_call hk h0 rfl rfl func28 rfl (by kernel_rfl) (p12_fail.ok v0 120 _ hr_t7)) fun a w hk=>?_
  refine lf (y := .agg ((ApiPred.cells (⟨[], [], []⟩ : ApiPred)))) hk (f_buildN [] hk h0 rfl rfl rfl) fun a w hk=>?_
  refine st3 (cs' := (St12.cells t7)) hk rfl (by kernel_rfl) fun w hk => ?_
  refine st2 (cs' := (ApiPred.cells (⟨[], [], []⟩ : ApiPred))) hk rfl (by kernel_rfl) fun w hk => ?_
  refine lend (q17 _ _ ?_)
  refine wp_ret ?_
  obtain rfl := Option.some.inj h
  exact fretR2 hk rfl (rcell hk rfl (j := 3) rfl underlying64 rfl (by kernel_rfl)) (rcell hk rfl (j := 2) rfl underlying36 rfl (by kernel_rfl))
 refine wp_skip ?_
 refine q15 _ _ ?_
 refine wseqJ (fun a w => ∃ (y5 : ApiPred) (y4 : St12) (y1 : St12), S M w0 a w 166 [blk bx5 36 ((ApiPred.cells y5)), blk bx4 64 ((St12.cells y4)), blk bx3 36 ((ApiPred.cells (⟨[], [], []⟩ : ApiPred))), blk bx2 64 ((St12.cells (⟨[], 0, 0, 0, 0, 0⟩ : St12))), blk bx1 64 ((St12.cells y1))] [(1, [], .lit (.pointer (some ⟨bx1, 0, none⟩))), (2, [], .lit (.pointer (some ⟨bx2, 0, none⟩))), (3, [], .lit (.pointer (some ⟨bx3, 0, none⟩))), (4, [], .lit (.pointer (some ⟨bx4, 0, none⟩))), (7, [], .lit (.pointer (some ⟨bx5, 0, none⟩)))] ∧ p12_pred.j1 zpr K y5 y4 y1 = some r) ?_ ?_
 ·clear hk h
  rintro a w ⟨y5, y4, y1, hk, h⟩
  unfold p12_pred.j1 at h
  refine rg hk fun _ q19=>gF 2 underlying64<|gB 1 underlying3<|gF 2 underlying64<|fun a w hk=>?_
  refine st4 (cs' := (St12.cells (⟨y1.L, y1.I, y4.Deep, y1.Steps, y1.At, y1.E⟩ : St12))) hk rfl (by kernel_rfl) fun w hk => ?_
  refine lend (q19 _ _ ?_)
  refine wdrawE (.next [true, true, false, false] 2 [true, true, false, false] (.next [false, true, false, false] 3 [true, true, true, false] (.leaf [false, false, false, false]))) [(164, [], .agg ((St12.cells (⟨y1.L, y1.I, y4.Deep, y1.Steps, y1.At, y1.E⟩ : St12)))), (165, [], .agg ((ApiPred.cells y5))), (166, [], .lit undef), (166, [], .lit undef)] (by kernel_rfl) (by kernel_rfl) (by kernel_rfl) (by kernel_rfl) hk ?_; clear hk
  refine gnext0 ?_ rfl rfl rfl ?_
  ·refine gfun (y := .agg ((St12.cells (⟨y1.L, y1.I, y4.Deep, y1.Steps, y1.At, y1.E⟩ : St12)))) rfl rfl rfl rfl (fun a w hk => f_loadBlk hk h0 (j := 4) rfl rfl underlying64 rfl rfl rfl rfl) ?_
   refine gfun (y := .agg ((ApiPred.cells y5))) rfl rfl rfl rfl (fun a w hk => f_loadBlk hk h0 (j := 0) rfl rfl underlying36 rfl rfl rfl rfl) ?_
   refine gskip0 rfl ?_
   refine gskip0 rfl ?_
   exact gend
  ·intro σD a w opsD QD hk hQ hX
   refine st3 (cs' := (St12.cells (⟨y1.L, y1.I, y4.Deep, y1.Steps, y1.At, y1.E⟩ : St12))) hk rfl (by kernel_rfl) fun w hk => ?_
   refine hQ _ a w ?_ hk; clear hk hQ hX
   refine ⟨[(164, [], .agg ((St12.cells (⟨y1.L, y1.I, y4.Deep, y1.Steps, y1.At, y1.E⟩ : St12)))), (165, [], .agg ((ApiPred.cells y5))), (166, [], .lit undef), (166, [], .lit undef)], And.intro rfl (And.intro rfl (trivial)), rfl, ?_⟩
   refine gnext0 ?_ rfl rfl rfl ?_
   ·refine gskip rfl rfl ?_
    refine gfun (y := .agg ((ApiPred.cells y5))) rfl rfl rfl rfl (fun a w hk => f_loadBlk hk h0 (j := 0) rfl rfl underlying36 rfl rfl rfl rfl) ?_
    refine gskip0 rfl ?_
    refine gskip0 rfl ?_
    exact gend
   ·intro σD a w opsD QD hk hQ hX
    refine st2 (cs' := (ApiPred.cells y5)) hk rfl (by kernel_rfl) fun w hk => ?_
    refine hQ _ a w ?_ hk; clear hk hQ hX
    refine ⟨[(164, [], .agg ((St12.cells (⟨y1.L, y1.I, y4.Deep, y1.Steps, y1.At, y1.E⟩ : St12)))), (165, [], .agg ((ApiPred.cells y5))), (166, [], .lit undef), (166, [], .lit undef)], And.intro rfl (And.intro rfl (And.intro rfl (trivial))), rfl, ?_⟩
    refine glast ?_ ?_
    ·refine gskip rfl rfl ?_
     refine gskip rfl rfl ?_
     refine gskip0 rfl ?_
     refine gskip0 rfl ?_
     exact gend
    ·intro a w hk; simp only [stD, cond_true] at hk
     refine wp_ret ?_
     obtain rfl := Option.some.inj h
     exact fretR2 hk rfl (rcell hk rfl (j := 3) rfl underlying64 rfl (by kernel_rfl)) (rcell hk rfl (j := 2) rfl underlying36 rfl (by kernel_rfl))
 ·intro K' q18
  refine wp_block ?_
  refine wloop (T := Nat × ApiPred × St12 × St12) (fun x a w => match x with | (kl1, y5, y4, y1) => S M w0 a w 166 [blk bx5 36 ((ApiPred.cells y5)), blk bx4 64 ((St12.cells y4)), blk bx3 36 ((ApiPred.cells (⟨[], [], []⟩ : ApiPred))), blk bx2 64 ((St12.cells (⟨[], 0, 0, 0, 0, 0⟩ : St12))), blk bx1 64 ((St12.cells y1))] [(1, [], .lit (.pointer (some ⟨bx1, 0, none⟩))), (2, [], .lit (.pointer (some ⟨bx2, 0, none⟩))), (3, [], .lit (.pointer (some ⟨bx3, 0, none⟩))), (4, [], .lit (.pointer (some ⟨bx4, 0, none⟩))), (7, [], .lit (.pointer (some ⟨bx5, 0, none⟩)))] ∧ p12_pred.l1 zpr K kl1 y5 y4 y1 = some r) (fun x => x.1) (K, (⟨(List.getD v0.L (Int.toNat v0.I) default).S, t6.2, []⟩ : ApiPred), v0, (⟨t6.1.L, t6.1.I, v0.Deep, t6.1.Steps, t6.1.At, t6.1.E⟩ : St12)) ⟨hk.sub ⟨rfl, rfl, rfl, rfl, rfl, trivial⟩, h⟩ ?_
  clear hk h
  rintro ⟨kl1, y5, y4, y1⟩ a w ⟨hk, h⟩ K' q21
  cases kl1 with
  | zero => simp [p12_pred.l1] at h
  | succ kl1 =>
  rw [p12_pred.l1.eq_2] at h
  refine wseq fun _ q22 => ?_
  refine wreg fun _ q23 => ?_
  refine lf hk (f_loadBlk hk h0 (j := 4) rfl rfl underlying64 rfl rfl rfl rfl) fun a w hk=>?_
  obtain ⟨t8, hr_t8, h⟩ := bnd h
  refine lf (y := .lit (.bool t8)) hk (f_call hk h0 rfl rfl func51 rfl (by kernel_rfl) (p12_is.ok y1 ([46] : List UInt8) _ hr_t8)) fun a w hk=>?_
  refine lend (q23 _ _ ?_)
  refine wc hk h (fun h hb=>?_) fun h hb=>?_
  ·refine wp_skip ?_
   refine q22 _ _ ?_
   refine wp_block ?_
   refine rg hk fun _ q24=>gF 1 underlying64<|gB 4 underlying3<|gD<|gF 1 underlying64<|fun a w hk=>?_
   refine st4 (cs' := (St12.cells (⟨y1.L, (IntKind.wrap .i64 (y1.I + 1)), y1.Deep, y1.Steps, y1.At, y1.E⟩ : St12))) hk rfl (by kernel_rfl) fun w hk => ?_
   refine lend (q24 _ _ ?_)
   refine wreg fun _ q25 => ?_
   refine lf hk (f_loadBlk hk h0 (j := 4) rfl rfl underlying64 rfl rfl rfl rfl) fun a w hk=>?_
   obtain ⟨t9, hr_t9, h⟩ := bnd h
   refine lf (y := .agg ((St12.cells t9))) hk (f_call hk h0 rfl rfl func79 rfl (by kernel_rfl) (p12_into.ok (⟨y1.L, (IntKind.wrap .i64 (y1.I + 1)), y1.Deep, y1.Steps, y1.At, y1.E⟩ : St12) _ hr_t9)) fun a w hk=>?_
   refine st4 (cs' := (St12.cells t9)) hk rfl (by kernel_rfl) fun w hk => ?_
   refine lend (q25 _ _ ?_)
   refine wreg fun _ q26 => ?_
   refine lf hk (f_loadBlk hk h0 (j := 4) rfl rfl underlying64 rfl rfl rfl rfl) fun a w hk=>?_
   refine l_alloc (zs := (St12.cells (⟨[], 0, 0, 0, 0, 0⟩ : St12))) [] hk rfl rfl rfl rfl ?_; clear hk; intro bx6 a w hk
   refine st0 (cs' := (St12.cells t9)) hk rfl (by kernel_rfl) fun w hk => ?_
   refine lend (q26 _ _ ?_)
   refine wseqJ (fun a w => ∃ (y6 : St12) (y1 : St12), S M w0 a w 166 [blk bx6 64 ((St12.cells y6)), blk bx5 36 ((ApiPred.cells y5)), blk bx4 64 ((St12.cells y4)), blk bx3 36 ((ApiPred.cells (⟨[], [], []⟩ : ApiPred))), blk bx2 64 ((St12.cells (⟨[], 0, 0, 0, 0, 0⟩ : St12))), blk bx1 64 ((St12.cells y1))] [(1, [], .lit (.pointer (some ⟨bx1, 0, none⟩))), (2, [], .lit (.pointer (some ⟨bx2, 0, none⟩))), (3, [], .lit (.pointer (some ⟨bx3, 0, none⟩))), (4, [], .lit (.pointer (some ⟨bx4, 0, none⟩))), (7, [], .lit (.pointer (some ⟨bx5, 0, none⟩))), (8, [], .lit (.pointer (some ⟨bx6, 0, none⟩)))] ∧ p12_pred.j2 zpr (p12_pred.l1 zpr K kl1) K y4 y5 y6 y1 = some r) ?_ ?_
   ·clear hk h
    rintro a w ⟨y6, y1, hk, h⟩
    unfold p12_pred.j2 at h
    refine wseq fun _ q28 => ?_
    refine rg hk fun _ q29=>gF 5 underlying64<|gB 5 underlying23<|gP (p_neq · h0 rfl rfl)<|ge q29 fun a w hk=>wc hk h (fun h hb=>?_) fun h hb=>?_
    ·refine wp_exit ?_; (repeat first | refine te ?_ | refine be rfl ?_); refine bx ?_
     exact q18 _ _ ⟨y5, y4, y1, (hk.drop 0).sub ⟨rfl, rfl, rfl, rfl, rfl, trivial⟩, h⟩
    refine wp_skip ?_
    refine q28 _ _ ?_
    refine rg hk fun _ q30=>gF 0 underlying64<|gB 5 underlying60<|gF 1 underlying64<|gB 5 underlying3<|fun a w hk=>?_
    obtain ⟨hc4, h⟩ := chk h
    refine lf (y := .ref (ApiWord.cells (List.getD y1.L (Int.toNat y1.I) default))) hk (f_indexAddr (R := r_ApiWord_cells) (f := ApiWord.cells) (l := y1.L) (sz := 5) r_ApiWord_cells_eq (fun _ => rfl) hk h0 rfl rfl underlying60 (by kernel_rfl) hc4) fun a w hk=>?_
    refine lf hk (f_fieldAddr hk h0 rfl underlying66 rfl (by kernel_rfl) rfl) fun a w hk=>?_
    refine lf hk (f_load1 hk h0 rfl rfl underlying9 rfl) fun a w hk=>?_
    refine go hk<|gA<|ge q30 fun a w hk=>?_
    refine rg hk fun _ q31=>gF 1 underlying64<|gB 5 underlying3<|gD<|gF 1 underlying64<|fun a w hk=>?_
    refine st5 (cs' := (St12.cells (⟨y1.L, (IntKind.wrap .i64 (y1.I + 1)), y1.Deep, y1.Steps, y1.At, y1.E⟩ : St12))) hk rfl (by kernel_rfl) fun w hk => ?_
    refine lend (q31 _ _ ?_)
    refine wreg fun _ q32 => ?_
    refine lf hk (f_loadBlk hk h0 (j := 5) rfl rfl underlying64 rfl rfl rfl rfl) fun a w hk=>?_
    obtain ⟨t10, hr_t10, h⟩ := bnd h
    refine lf (y := .agg ((St12.cells t10))) hk (f_call hk h0 rfl rfl func26 rfl (by kernel_rfl) (p12_sign.ok (⟨y1.L, (IntKind.wrap .i64 (y1.I + 1)), y1.Deep, y1.Steps, y1.At, y1.E⟩ : St12) ([40] : List UInt8) _ hr_t10)) fun a w hk=>?_
    refine st5 (cs' := (St12.cells t10)) hk rfl (by kernel_rfl) fun w hk => ?_
    refine lend (q32 _ _ ?_)
    refine wseqJ (fun a w => ∃ (y5 : ApiPred) (y1 : St12), S M w0 a w 166 [blk bx5 36 ((ApiPred.cells y5)), blk bx4 64 ((St12.cells y4)), blk bx3 36 ((ApiPred.cells (⟨[], [], []⟩ : ApiPred))), blk bx2 64 ((St12.cells (⟨[], 0, 0, 0, 0, 0⟩ : St12))), blk bx1 64 ((St12.cells y1))] [(1, [], .lit (.pointer (some ⟨bx1, 0, none⟩))), (2, [], .lit (.pointer (some ⟨bx2, 0, none⟩))), (3, [], .lit (.pointer (some ⟨bx3, 0, none⟩))), (4, [], .lit (.pointer (some ⟨bx4, 0, none⟩))), (7, [], .lit (.pointer (some ⟨bx5, 0, none⟩)))] ∧ p12_pred.j3 zpr (p12_pred.l1 zpr K kl1) K y4 y5 y1 = some r) ?_ ?_
    ·clear hk h
     rintro a w ⟨y5, y1, hk, h⟩
     unfold p12_pred.j3 at h
     refine wreg1 ?_
     refine lf hk (f_loadBlk hk h0 (j := 4) rfl rfl underlying64 rfl rfl rfl rfl) fun a w hk=>?_
     obtain ⟨t11, hr_t11, h⟩ := bnd h
     refine lf (y := .agg ((St12.cells t11))) hk (f_call hk h0 rfl rfl func26 rfl (by kernel_rfl) (p12_sign.ok y1 ([41] : List UInt8) _ hr_t11)) fun a w hk=>?_
     refine st4 (cs' := (St12.cells t11)) hk rfl (by kernel_rfl) fun w hk => ?_
     refine wpList_nil ?_
     exact q21 (kl1, y5, y4, t11) _ _ (Nat.lt_succ_self _) ⟨hk.sub ⟨rfl, rfl, rfl, rfl, rfl, trivial⟩, h⟩
    ·intro K' q33
     refine rg hk fun _ q35=>gM<|ge q35 fun a w hk=>?_
     refine wp_block ?_
     refine wseqJ (fun a w => ∃ (y1 : St12) (v9 : List UInt8) (v127 : List UInt8) (v133 : Bool), S M w0 a w 166 [blk bx6 64 ((St12.cells y6)), blk bx5 36 ((ApiPred.cells y5)), blk bx4 64 ((St12.cells y4)), blk bx3 36 ((ApiPred.cells (⟨[], [], []⟩ : ApiPred))), blk bx2 64 ((St12.cells (⟨[], 0, 0, 0, 0, 0⟩ : St12))), blk bx1 64 ((St12.cells y1))] [(1, [], .lit (.pointer (some ⟨bx1, 0, none⟩))), (2, [], .lit (.pointer (some ⟨bx2, 0, none⟩))), (3, [], .lit (.pointer (some ⟨bx3, 0, none⟩))), (4, [], .lit (.pointer (some ⟨bx4, 0, none⟩))), (7, [], .lit (.pointer (some ⟨bx5, 0, none⟩))), (8, [], .lit (.pointer (some ⟨bx6, 0, none⟩))), (9, [], .lit (.string (B v9))), (127, [], .lit (.string (B v127))), (133, [], .lit (.bool v133))] ∧ p12_pred.j4 zpr (p12_pred.l1 zpr K kl1) K y4 y5 y6 y1 v9 v127 v133 = some r) ?_ ?_
     ·clear hk h
      rintro a w ⟨y1, v9, v127, v133, hk, h⟩
      unfold p12_pred.j4 at h
      refine wc hk h (fun h hb=>?_) fun h hb=>?_
      ·refine rg hk fun _ q37=>gF 5 underlying64<|gB 5 underlying23<|gE<|ge q37 fun a w hk=>wc hk h (fun h hb=>?_) fun h hb=>?_
       ·refine wreg fun _ q38 => ?_
        refine lf hk (f_loadBlk hk h0 (j := 5) rfl rfl underlying64 rfl rfl rfl rfl) fun a w hk=>?_
        obtain ⟨t12, hr_t12, h⟩ := bnd h
        refine lf (y := .tup [.agg ((St12.cells t12.1)), .agg ((ApiPred.cells t12.2))]) hk (f_call hk h0 rfl rfl func78 rfl (by kernel_rfl) (hzpr y1 _ hr_t12)) fun a w hk=>?_
        refine go hk<|gM<|fun a w hk=>?_
        refine go hk<|gX<|gX<|fun a w hk=>?_
        refine l_alloc (zs := (St12.cells (⟨[], 0, 0, 0, 0, 0⟩ : St12))) [] hk rfl rfl rfl rfl ?_; clear hk; intro bx7 a w hk
        refine l_alloc (zs := (ApiPred.cells (⟨[], [], []⟩ : ApiPred))) [] hk rfl rfl rfl rfl ?_; clear hk; intro bx8 a w hk
        refine st1 (cs' := (St12.cells t12.1)) hk rfl (by kernel_rfl) fun w hk => ?_
        refine st0 (cs' := (ApiPred.cells t12.2)) hk rfl (by kernel_rfl) fun w hk => ?_
        refine lend (q38 _ _ ?_)
        refine rg hk fun _ q39=>gF 2 underlying64<|gB 7 underlying3<|gA<|ge q39 fun a w hk=>?_
        refine wreg fun _ q40 => ?_
        refine lf hk (f_loadBlk hk h0 (j := 1) rfl rfl underlying64 rfl rfl rfl rfl) fun a w hk=>?_
        refine l_store (I' := [blk bx8 36 ((ApiPred.cells t12.2)), blk bx7 64 ((St12.cells t12.1)), blk bx6 64 ((St12.cells y6)), blk bx5 36 ((ApiPred.cells y5)), blk bx4 64 ((St12.cells y4)), blk bx3 36 ((ApiPred.cells (⟨[], [], []⟩ : ApiPred))), blk bx2 64 ((St12.cells (⟨[], 0, 0, 0, 0, 0⟩ : St12))), blk bx1 64 ((St12.cells t12.1))]) (cs' := (St12.cells t12.1)) (j := 7) hk rfl rfl rfl rfl rfl (by kernel_rfl) rfl rfl fun w hk => ?_
        refine lend (q40 _ _ ?_)
        refine rg hk fun _ q41=>gM<|gF 2 underlying64<|fun a w hk=>?_
        refine l_store (I' := [blk bx8 36 ((ApiPred.cells t12.2)), blk bx7 64 ((St12.cells t12.1)), blk bx6 64 ((St12.cells y6)), blk bx5 36 ((ApiPred.cells y5)), blk bx4 64 ((St12.cells y4)), blk bx3 36 ((ApiPred.cells (⟨[], [], []⟩ : ApiPred))), blk bx2 64 ((St12.cells (⟨[], 0, 0, 0, 0, 0⟩ : St12))), blk bx1 64 ((St12.cells (⟨t12.1.L, t12.1.I, y1.Deep, t12.1.Steps, t12.1.At, t12.1.E⟩ : St12)))]) (cs' := (St12.cells (⟨t12.1.L, t12.1.I, y1.Deep, t12.1.Steps, t12.1.At, t12.1.E⟩ : St12))) (j := 7) hk rfl rfl rfl rfl rfl (by kernel_rfl) rfl rfl fun w hk => ?_
        refine lend (q41 _ _ ?_)
        refine rg1 hk<|gM<|fun a w hk=>?_
        refine lf hk (f_loadBlk hk h0 (j := 3) rfl rfl underlying36 rfl rfl rfl rfl) fun a w hk=>?_
        refine lf hk (f_loadBlk hk h0 (j := 0) rfl rfl underlying36 rfl rfl rfl rfl) fun a w hk=>?_
        refine l_buildSlice (f := ApiPred.cells) (l := ([y5, t12.2] : List ApiPred)) hk rfl rfl rfl underlying34 rfl rfl rfl rfl (fun _ => rfl) rfl ?_; clear hk; intro bx9 a w hk
        replace hk := (S.freezeR (I' := [blk bx8 36 ((ApiPred.cells t12.2)), blk bx7 64 ((St12.cells t12.1)), blk bx6 64 ((St12.cells y6)), blk bx5 36 ((ApiPred.cells y5)), blk bx4 64 ((St12.cells y4)), blk bx3 36 ((ApiPred.cells (⟨[], [], []⟩ : ApiPred))), blk bx2 64 ((St12.cells (⟨[], 0, 0, 0, 0, 0⟩ : St12))), blk bx1 64 ((St12.cells (⟨t12.1.L, t12.1.I, y1.Deep, t12.1.Steps, t12.1.At, t12.1.E⟩ : St12)))]) r_ApiPred_cells_eq hk (j := 0) rfl (t := 152) rfl rfl).squash
        refine lf (y := .agg ((ApiPred.cells (⟨v9, [], ([y5, t12.2] : List ApiPred)⟩ : ApiPred)))) hk (f_buildN [] hk h0 rfl rfl rfl) fun a w hk=>?_
        refine st3 (cs' := (ApiPred.cells (⟨v9, [], ([y5, t12.2] : List ApiPred)⟩ : ApiPred))) hk rfl (by kernel_rfl) fun w hk => ?_
        refine wpList_nil ?_
        exact q33 _ _ ⟨(⟨v9, [], ([y5, t12.2] : List ApiPred)⟩ : ApiPred), (⟨t12.1.L, t12.1.I, y1.Deep, t12.1.Steps, t12.1.At, t12.1.E⟩ : St12), (((hk.drop 2).drop 1).drop 0).sub ⟨rfl, rfl, rfl, rfl, rfl, trivial⟩, h⟩
       refine wp_skip ?_
       exact q33 _ _ ⟨y5, y1, (hk.drop 0).sub ⟨rfl, rfl, rfl, rfl, rfl, trivial⟩, h⟩
      refine rg hk fun _ q43=>gS<|gA<|ge q43 fun a w hk=>wc hk h (fun h hb=>?_) fun h hb=>?_
      ·refine wreg1 ?_
       refine lf hk (f_loadBlk hk h0 (j := 1) rfl rfl underlying36 rfl rfl rfl rfl) fun a w hk=>?_
       refine l_buildSlice (f := ApiPred.cells) (l := ([y5] : List ApiPred)) hk rfl rfl rfl underlying34 rfl rfl rfl rfl (fun _ => rfl) rfl ?_; clear hk; intro bx10 a w hk
       replace hk := (S.freezeR (I' := [blk bx6 64 ((St12.cells y6)), blk bx5 36 ((ApiPred.cells y5)), blk bx4 64 ((St12.cells y4)), blk bx3 36 ((ApiPred.cells (⟨[], [], []⟩ : ApiPred))), blk bx2 64 ((St12.cells (⟨[], 0, 0, 0, 0, 0⟩ : St12))), blk bx1 64 ((St12.cells y1))]) r_ApiPred_cells_eq hk (j := 0) rfl (t := 157) rfl rfl).squash
       refine lf (y := .agg ((ApiPred.cells (⟨([110, 111, 116] : List UInt8), [], ([y5] : List ApiPred)⟩ : ApiPred)))) hk (f_buildN [] hk h0 rfl rfl rfl) fun a w hk=>?_
       refine st1 (cs' := (ApiPred.cells (⟨([110, 111, 116] : List UInt8), [], ([y5] : List ApiPred)⟩ : ApiPred))) hk rfl (by kernel_rfl) fun w hk => ?_
       refine wpList_nil ?_
       exact q33 _ _ ⟨(⟨([110, 111, 116] : List UInt8), [], ([y5] : List ApiPred)⟩ : ApiPred), y1, (hk.drop 0).sub ⟨rfl, rfl, rfl, rfl, rfl, trivial⟩, h⟩
      refine rg hk fun _ q45=>gF 5 underlying64<|gB 5 underlying23<|gE<|ge q45 fun a w hk=>wc hk h (fun h hb=>?_) fun h hb=>?_
      ·refine wreg1 ?_
       refine lf hk (f_loadBlk hk h0 (j := 0) rfl rfl underlying64 rfl rfl rfl rfl) fun a w hk=>?_
       obtain ⟨t13, hr_t13, h⟩ := bnd h
       refine lf (y := .agg ((St12.cells t13))) hk (f_call hk h0 rfl rfl func28 rfl (by kernel_rfl) (p12_fail.ok y6 120 _ hr_t13)) fun a w hk=>?_
       refine st5 (cs' := (St12.cells t13)) hk rfl (by kernel_rfl) fun w hk => ?_
       refine wpList_nil ?_
       exact q33 _ _ ⟨y5, t13, (hk.drop 0).sub ⟨rfl, rfl, rfl, rfl, rfl, trivial⟩, h⟩
      refine wp_skip ?_
      exact q33 _ _ ⟨y5, y1, (hk.drop 0).sub ⟨rfl, rfl, rfl, rfl, rfl, trivial⟩, h⟩
     ·intro K' q36
      refine rg hk fun _ q47=>gS<|gA<|ge q47 fun a w hk=>wc hk h (fun h hb=>?_) fun h hb=>?_
      ·refine wp_skip ?_
       exact q36 _ _ ⟨t10, (List.getD y1.L (Int.toNat y1.I) default).S, (List.getD y1.L (Int.toNat y1.I) default).S, (decide (((List.getD y1.L (Int.toNat y1.I) default).S) = ([97, 110, 100] : List UInt8))), hk.sub ⟨rfl, rfl, rfl, rfl, rfl, rfl, rfl, rfl, rfl, trivial⟩, h⟩
      refine rg1 hk<|gS<|gA<|fun a w hk=>?_
      refine wpList_nil ?_
      exact q36 _ _ ⟨t10, (List.getD y1.L (Int.toNat y1.I) default).S, (List.getD y1.L (Int.toNat y1.I) default).S, (decide (((List.getD y1.L (Int.toNat y1.I) default).S) = ([111, 114] : List UInt8))), hk.sub ⟨rfl, rfl, rfl, rfl, rfl, rfl, rfl, rfl, rfl, trivial⟩, h⟩
   ·intro K' q27
    refine rg hk fun _ q49=>gF 5 underlying64<|gB 5 underlying23<|gE<|gM<|fun a w hk=>?_
    refine lg (y := .lit (.pointer (some ⟨bx1, 0, none⟩))) hk rfl rfl rfl (fun hc => f_fieldPtr hk hc rfl underlying64 rfl (by kernel_rfl) rfl) fun a w hk=>?_
    refine lg hk rfl rfl rfl (fun hc => f_loadBlk1 hk hc (j := 5) rfl rfl underlying60 rfl rfl) fun a w hk=>?_
    refine lg (y := .lit (.pointer (some ⟨bx1, 1, none⟩))) hk rfl rfl rfl (fun hc => f_fieldPtr hk hc rfl underlying64 rfl (by kernel_rfl) rfl) fun a w hk=>?_
    refine lg hk rfl rfl rfl (fun hc => f_loadBlk1 hk hc (j := 5) rfl rfl underlying3 rfl rfl) fun a w hk=>?_
    obtain ⟨hc5, h⟩ := chk h
    refine lg (y := .ref (ApiWord.cells (List.getD t9.L (Int.toNat t9.I) default))) hk rfl rfl rfl (fun hc => f_indexAddr (R := r_ApiWord_cells) (f := ApiWord.cells) (l := t9.L) (sz := 5) r_ApiWord_cells_eq (fun _ => rfl) hk hc rfl rfl underlying60 (by kernel_rfl) hc5) fun a w hk=>?_
    refine lg hk rfl rfl rfl (fun hc => f_fieldAddr hk hc rfl underlying66 rfl (by kernel_rfl) rfl) fun a w hk=>?_
    refine lg hk rfl rfl rfl (fun hc => f_load1 hk hc rfl rfl underlying3 rfl) fun a w hk=>?_
    refine lg hk rfl rfl rfl (fun hc => (f_pure (p_neq hk.kn hc rfl rfl))) fun a w hk=>?_
    refine go hk<|gN<|ge q49 fun a w hk=>wc hk h (fun h hb=>?_) fun h hb=>?_
    ·refine wreg1 ?_
     refine lf hk (f_loadBlk hk h0 (j := 5) rfl rfl underlying64 rfl rfl rfl rfl) fun a w hk=>?_
     obtain ⟨t14, hr_t14, h⟩ := bnd h
     refine lf (y := .agg ((St12.cells t14))) hk (f_call hk h0 rfl rfl func28 rfl (by kernel_rfl) (p12_fail.ok t9 120 _ hr_t14)) fun a w hk=>?_
     refine st5 (cs' := (St12.cells t14)) hk rfl (by kernel_rfl) fun w hk => ?_
     refine wpList_nil ?_
     exact q27 _ _ ⟨t9, t14, hk.sub ⟨rfl, rfl, rfl, rfl, rfl, rfl, trivial⟩, h⟩
    refine wp_skip ?_
    exact q27 _ _ ⟨t9, t9, hk.sub ⟨rfl, rfl, rfl, rfl, rfl, rfl, trivial⟩, h⟩
  refine wp_exit ?_; (repeat first | refine te ?_ | refine be rfl ?_); refine bx ?_
  exact q18 _ _ ⟨y5, y4, y1, hk.sub ⟨rfl, rfl, rfl, rfl, rfl, trivial⟩, h⟩
end Go.Proofs.Ytbjbgodcenopnaa

/- Put together by pack.py (my own program) of texts of mine: DxD, AvDraw2, Hmn, Hd, Fx, DxP0, DxP1, Fy, RtD, Hrx. -/
import Derived.KernelRfl
import Derived.Test.YtfbkgaandmebaaaGreatProg
import Derived.Maps.RangeRun
import Derived.Test.YtfbkgaandmebaaaGreatZa0
namespace Go.Proofs.YtfbkgaandmebaaaGreat
set_option linter.unusedVariables false
set_option maxRecDepth 20000
set_option maxHeartbeats 10000000
def c_str (x : List UInt8) : List FW.AV := [.lit (.string (FW.B x))]
def c_i64 (x : Int) : List FW.AV := [.lit (.int .i64 x)]
def c_u8 (x : Int) : List FW.AV := [.lit (.int .u8 x)]
def c_u64 (x : Int) : List FW.AV := [.lit (.int .u64 x)]
structure ApiFall where
  At : Int
  Keep : Int
  Torn : Int
  deriving Inhabited
def ApiFall.cells (x : ApiFall) : List FW.AV := [.lit (.int .i64 x.At), .lit (.int .u64 x.Keep), .lit (.int .i64 x.Torn)]
def r_c_i64 (l : List Int) : List (List FW.AV) := l.map c_i64
theorem r_c_i64_eq : ∀ l, r_c_i64 l = l.map c_i64 := fun _ => rfl
def r_c_str (l : List (List UInt8)) : List (List FW.AV) := l.map c_str
theorem r_c_str_eq : ∀ l, r_c_str l = l.map c_str := fun _ => rfl
def r_ApiFall_cells (l : List ApiFall) : List (List FW.AV) := l.map ApiFall.cells
theorem r_ApiFall_cells_eq : ∀ l, r_ApiFall_cells l = l.map ApiFall.cells := fun _ => rfl
structure ODevDev where
  sure : List (List UInt8)
  cache : List (Int × (List UInt8))
  steps : Int
  falls : List ApiFall
  off : Bool
  deriving Inhabited
abbrev ODevDev.items (b : Nat) (xd_0 : Option Addr) (xc_0 : Nat) (xr_1 : Nat) (xd_3 : Option Addr) (xc_3 : Nat) (x : ODevDev) : List FW.It := [FW.blk b 75 [.lit (.slice xd_0 (List.length x.sure) xc_0), .lit (.map (some xr_1)), .lit (.int .i64 x.steps), .lit (.slice xd_3 (List.length x.falls) xc_3), .lit (.bool x.off)], FW.orow xd_0 xc_0 9 1 c_str x.sure, FW.mapI (.int .i64) (Value.int .i64) FW.evS xr_1 x.cache, FW.orow xd_3 xc_3 52 3 ApiFall.cells x.falls]
structure OVarPDevDev where
  deriving Inhabited
abbrev OVarPDevDev.items (b : Nat) (p0 : Nat) (x : OVarPDevDev) : List FW.It := [FW.blk b 24 [.lit (.pointer (some ⟨p0, 0, none⟩))]]
def dev_Dev_Off.f  (v0 : ODevDev) : Option Bool :=
  some (v0.off)
def dev_Dev_Len.f  (v0 : ODevDev) : Option Int :=
  some ((List.length v0.sure : Int))
def dev_Dev_Steps.f  (v0 : ODevDev) : Option Int :=
  some (v0.steps)
def dev_Dev_Up.f  (v0 : ODevDev) : Option (Bool × ODevDev) :=
  (if (!v0.off) = true then some (false, v0) else some (true, (⟨v0.sure, v0.cache, v0.steps, v0.falls, false⟩ : ODevDev)))
def dev_Dev_Read.f  (v0 : ODevDev) (v1 : Int) : Option (List UInt8 × Int) :=
  (Option.bind (dev_Dev_Off.f v0) fun t1 => (if t1 = true then some (([] : List UInt8), 7) else (if ((decide (v1 < 0)) || (decide ((List.length v0.sure : Int) ≤ v1))) = true then some (([] : List UInt8), 1) else (if ((FW.mget v0.cache v1).isSome) = true then some (((FW.mget v0.cache v1).getD ([] : List UInt8)), 0) else (if ((0 : Int) ≤ v1 ∧ v1 < (List.length v0.sure : Int)) then some ((List.getD v0.sure (Int.toNat v1) default), 0) else none)))))
def dev_Dev_step_1.f  (v0 : ApiFall) (v1 : OVarPDevDev) (v1_0 : ODevDev) : Option Bool :=
  some ((decide (v0.At = v1_0.steps)))
def slices_IndexFunc_api_Fall_api_Fall_of_dev_Dev_step_1.l1 (K : Nat) (v1c0_0 : ODevDev) : Nat → Int → Int → Option Int
  | 0, _, _ => none
  | kl1 + 1, v7, v8 => (if (decide (v8 < v7)) = true then (if ((0 : Int) ≤ v8 ∧ v8 < (List.length v1c0_0.falls : Int)) then (Option.bind (dev_Dev_step_1.f (List.getD v1c0_0.falls (Int.toNat v8) default) (⟨⟩ : OVarPDevDev) v1c0_0) fun t1 => (if t1 = true then some (v8) else slices_IndexFunc_api_Fall_api_Fall_of_dev_Dev_step_1.l1 K v1c0_0 kl1 v7 (IntKind.wrap .i64 (v8 + 1)))) else none) else some ((-1)))
def slices_IndexFunc_api_Fall_api_Fall_of_dev_Dev_step_1.f (K : Nat) (v1c0 : OVarPDevDev) (v1c0_0 : ODevDev) : Option Int :=
  slices_IndexFunc_api_Fall_api_Fall_of_dev_Dev_step_1.l1 K v1c0_0 K (List.length v1c0_0.falls : Int) 0
def dev_Dev_Crash.j1 (s_l1 : Int → Bool → List (List UInt8) → Int → Int → List Int → Int → Int → Option ODevDev) (K : Nat) (l2 : List (List UInt8)) (v0 : ODevDev) (y1_2 : Int) (y1_4 : Bool) (v1 : Int) (v2 : Int) (v7 : Int) (v8 : List UInt8) (v17 : List Int) (v18 : Int) (v19 : Int) : Option ODevDev :=
  (if ((0 : Int) ≤ v7 ∧ v7 < (List.length l2 : Int)) then s_l1 y1_2 y1_4 (List.set l2 (Int.toNat v7) v8) v1 v2 v17 v18 (IntKind.wrap .i64 (v19 + 1)) else none)
def dev_Dev_Crash.l1 (K : Nat) (v0 : ODevDev) : Nat → Int → Bool → List (List UInt8) → Int → Int → List Int → Int → Int → Option ODevDev
  | 0, _, _, _, _, _, _, _, _ => none
  | kl1 + 1, y1_2, y1_4, l2, v1, v2, v17, v18, v19 => (if (decide (v19 < v18)) = true then (if ((0 : Int) ≤ v19 ∧ v19 < (List.length v17 : Int)) then (if (0 : Int) ≤ (if 63 < v19 then 63 else v19) then (if (decide ((FW.andI .u64 (FW.shrI .u64 v1 (if 63 < v19 then 63 else v19)) 1) = 0)) = true then (if ((0 : Int) ≤ (if (List.length ((FW.mget v0.cache (List.getD v17 (Int.toNat v19) default)).getD ([] : List UInt8)) : Int) < (if v2 < 0 then 0 else v2) then (List.length ((FW.mget v0.cache (List.getD v17 (Int.toNat v19) default)).getD ([] : List UInt8)) : Int) else (if v2 < 0 then 0 else v2)) ∧ (if (List.length ((FW.mget v0.cache (List.getD v17 (Int.toNat v19) default)).getD ([] : List UInt8)) : Int) < (if v2 < 0 then 0 else v2) then (List.length ((FW.mget v0.cache (List.getD v17 (Int.toNat v19) default)).getD ([] : List UInt8)) : Int) else (if v2 < 0 then 0 else v2)) ≤ (List.length ((FW.mget v0.cache (List.getD v17 (Int.toNat v19) default)).getD ([] : List UInt8)) : Int)) then (if ((0 : Int) ≤ (List.getD v17 (Int.toNat v19) default) ∧ (List.getD v17 (Int.toNat v19) default) < (List.length l2 : Int)) then (if ((0 : Int) ≤ (if (List.length ((FW.mget v0.cache (List.getD v17 (Int.toNat v19) default)).getD ([] : List UInt8)) : Int) < (if v2 < 0 then 0 else v2) then (List.length ((FW.mget v0.cache (List.getD v17 (Int.toNat v19) default)).getD ([] : List UInt8)) : Int) else (if v2 < 0 then 0 else v2)) ∧ (if (List.length ((FW.mget v0.cache (List.getD v17 (Int.toNat v19) default)).getD ([] : List UInt8)) : Int) < (if v2 < 0 then 0 else v2) then (List.length ((FW.mget v0.cache (List.getD v17 (Int.toNat v19) default)).getD ([] : List UInt8)) : Int) else (if v2 < 0 then 0 else v2)) ≤ (List.length (List.getD l2 (Int.toNat (List.getD v17 (Int.toNat v19) default)) default) : Int)) then (if (List.length (List.take (Int.toNat (if (List.length ((FW.mget v0.cache (List.getD v17 (Int.toNat v19) default)).getD ([] : List UInt8)) : Int) < (if v2 < 0 then 0 else v2) then (List.length ((FW.mget v0.cache (List.getD v17 (Int.toNat v19) default)).getD ([] : List UInt8)) : Int) else (if v2 < 0 then 0 else v2))) ((FW.mget v0.cache (List.getD v17 (Int.toNat v19) default)).getD ([] : List UInt8))) : Int) + List.length (List.drop (Int.toNat (if (List.length ((FW.mget v0.cache (List.getD v17 (Int.toNat v19) default)).getD ([] : List UInt8)) : Int) < (if v2 < 0 then 0 else v2) then (List.length ((FW.mget v0.cache (List.getD v17 (Int.toNat v19) default)).getD ([] : List UInt8)) : Int) else (if v2 < 0 then 0 else v2))) (List.getD l2 (Int.toNat (List.getD v17 (Int.toNat v19) default)) default)) ≤ 9223372036854775807 then dev_Dev_Crash.j1 (dev_Dev_Crash.l1 K v0 kl1) K l2 v0 y1_2 y1_4 v1 0 (List.getD v17 (Int.toNat v19) default) ((List.take (Int.toNat (if (List.length ((FW.mget v0.cache (List.getD v17 (Int.toNat v19) default)).getD ([] : List UInt8)) : Int) < (if v2 < 0 then 0 else v2) then (List.length ((FW.mget v0.cache (List.getD v17 (Int.toNat v19) default)).getD ([] : List UInt8)) : Int) else (if v2 < 0 then 0 else v2))) ((FW.mget v0.cache (List.getD v17 (Int.toNat v19) default)).getD ([] : List UInt8))) ++ (List.drop (Int.toNat (if (List.length ((FW.mget v0.cache (List.getD v17 (Int.toNat v19) default)).getD ([] : List UInt8)) : Int) < (if v2 < 0 then 0 else v2) then (List.length ((FW.mget v0.cache (List.getD v17 (Int.toNat v19) default)).getD ([] : List UInt8)) : Int) else (if v2 < 0 then 0 else v2))) (List.getD l2 (Int.toNat (List.getD v17 (Int.toNat v19) default)) default))) v17 v18 v19 else none) else none) else none) else none) else dev_Dev_Crash.j1 (dev_Dev_Crash.l1 K v0 kl1) K l2 v0 y1_2 y1_4 v1 v2 (List.getD v17 (Int.toNat v19) default) ((FW.mget v0.cache (List.getD v17 (Int.toNat v19) default)).getD ([] : List UInt8)) v17 v18 v19) else none) else none) else some ((⟨l2, ([] : List (Int × (List UInt8))), y1_2, v0.falls, true⟩ : ODevDev)))
def dev_Dev_Crash.f (K : Nat) (v0 : ODevDev) (v1 : Int) (v2 : Int) : Option ODevDev :=
  (Option.bind (dev_Dev_Off.f v0) fun t1 => (if t1 = true then some (v0) else (if (FW.keysOk v0.cache = true) then dev_Dev_Crash.l1 K v0 K v0.steps v0.off v0.sure v1 v2 (FW.sortK v0.cache) (List.length (FW.sortK v0.cache) : Int) 0 else none)))
def dev_Dev_step.f (K : Nat) (v0 : ODevDev) : Option (Int × ODevDev) :=
  (Option.bind (slices_IndexFunc_api_Fall_api_Fall_of_dev_Dev_step_1.f K (⟨⟩ : OVarPDevDev) v0) fun t1 => (if (decide (t1 < 0)) = true then some (0, (⟨v0.sure, v0.cache, (IntKind.wrap .i64 (v0.steps + 1)), v0.falls, v0.off⟩ : ODevDev)) else (if ((0 : Int) ≤ t1 ∧ t1 < (List.length v0.falls : Int)) then (if (List.length v0.falls = 1 ∧ t1 = 0 ∧ (IntKind.wrap .i64 (t1 + 1)) = 1) then (Option.bind (dev_Dev_Crash.f K (⟨v0.sure, v0.cache, v0.steps, ([] : List ApiFall), v0.off⟩ : ODevDev) ((List.getD v0.falls (Int.toNat t1) default).Keep) ((List.getD v0.falls (Int.toNat t1) default).Torn)) fun t2 => some (7, t2)) else none) else none)))
def dev_Dev_Write.f (K : Nat) (v0 : ODevDev) (v1 : Int) (v2 : List UInt8) : Option (Int × ODevDev) :=
  (Option.bind (dev_Dev_Off.f v0) fun t1 => (if t1 = true then some (7, v0) else (if (((decide (v1 < 0)) || (decide ((List.length v0.sure : Int) ≤ v1))) || (!decide ((List.length v2 : Int) = 128))) = true then some (1, v0) else (Option.bind (dev_Dev_step.f K v0) fun t2 => (if (!decide (t2.1 = 0)) = true then some (t2.1, t2.2) else some (0, (⟨t2.2.sure, (FW.mput t2.2.cache v1 v2), t2.2.steps, t2.2.falls, t2.2.off⟩ : ODevDev)))))))
def dev_Dev_Plan.f  (v0 : ODevDev) (v1 : List ApiFall) : Option ODevDev :=
  (if ((0 + List.length v1) * 24 ≤ 140737488355328 ∧ 0 + List.length v1 ≤ 140737488355328) then some ((⟨v0.sure, v0.cache, v0.steps, v1, v0.off⟩ : ODevDev)) else none)
def dev_New.l1 (K : Nat) : Nat → Int → Bool → List (List UInt8) → Int → Int → Option (ODevDev × Int)
  | 0, _, _, _, _, _ => none
  | kl1 + 1, y4_2, y4_4, l1, v21, v22 => (if (decide (v22 < v21)) = true then (Option.bind (strings_Repeat.f ([0] : List UInt8) 128) fun t1 => (if ((0 : Int) ≤ v22 ∧ v22 < (List.length l1 : Int)) then dev_New.l1 K kl1 y4_2 y4_4 (List.set l1 (Int.toNat v22) t1) v21 (IntKind.wrap .i64 (v22 + 1)) else none)) else some ((⟨l1, ([] : List (Int × (List UInt8))), y4_2, ([] : List ApiFall), y4_4⟩ : ODevDev), 0))
def dev_New.f (K : Nat) (v0 : Int) : Option (ODevDev × Int) :=
  (if ((decide (v0 < 0)) || (decide (65536 < v0))) = true then none else (if ((0 : Int) ≤ v0 ∧ (v0 : Int) ≤ 1000000000000) then dev_New.l1 K K 0 false (List.replicate (Int.toNat v0) ([] : List UInt8)) (List.length (List.replicate (Int.toNat v0) ([] : List UInt8)) : Int) 0 else none))
end Go.Proofs.YtfbkgaandmebaaaGreat
namespace Go.Proofs.YtfbkgaandmebaaaGreat.FW
variable {Df : List Deferred}
open Go.RowKit
set_option linter.unusedVariables false
set_option linter.unusedSimpArgs false
abbrev Ent := Nat × Ch × AV
section
variable {P : Program} {M : Nat → Prop} {w0 : Bs} {n : Nat} {I : List It} {Q Q0 : Exit → Act → World → Prop}
def hopsG (P : Program) (ops : List Oper) (M : Nat → Prop) (w0 : Bs) (Df : List Deferred) (n : Nat) (I : List It) : List Bool → List Oper → List Ent → St → Prop
  | m :: ms, o :: r, e :: E, σ => ((o.dst = some e.1 ∨ (o.dst = none ∧ e = (n, [], .lit undef) ∧ m = false)) ∧ (e.2.1.all fun p => (looks ops o).any (Nat.beq p.1)) = true ∧ (m = true → Hop P ops M w0 Df n I σ o e.1 e.2.1 e.2.2)) ∧ hopsG P ops M w0 Df n I ms r E (e :: σ)
  | [], [], [], σ => True
  | _, _, _, σ => False
def agr : List Bool → List Ent → List Ent → Prop
  | true :: ms, x :: l, x' :: l' => x' = x ∧ agr ms l l'
  | false :: ms, _ :: l, _ :: l' => agr ms l l'
  | [], [], [] => True
  | _, _, _ => False
def Heff (P : Program) (M : Nat → Prop) (w0 : Bs) (Df : List Deferred) (Q0 : Exit → Act → World → Prop) (n : Nat) (o : Oper) (σ1 : St) (I : List It) (d : Nat) (N : List It → AV → Prop) : Prop :=
  ∀ (σD : St) (a : Act) (w : World) (ops : Array Oper) (Q : Exit → Act → World → Prop), S M w0 a w n I (σ1 ++ σD) Df → chFree (σ1 ++ σD) d = true →
    (∀ I' y a' w', N I' y → S M w0 a' w' n I' ((d, [], y) :: (σ1 ++ σD)) Df → wpList P ops Q [] a' w') → (∀ e a w, e ≠ .normal → Q0 e a w → Q e a w) → wpList P ops Q [o] a w
def Heff0 (P : Program) (M : Nat → Prop) (w0 : Bs) (Df : List Deferred) (Q0 : Exit → Act → World → Prop) (n : Nat) (o : Oper) (σ1 : St) (I : List It) (N : List It → Prop) : Prop :=
  ∀ (σD : St) (a : Act) (w : World) (ops : Array Oper) (Q : Exit → Act → World → Prop), S M w0 a w n I (σ1 ++ σD) Df →
    (∀ I' a' w', N I' → S M w0 a' w' n I' (σ1 ++ σD) Df → wpList P ops Q [] a' w') → (∀ e a w, e ≠ .normal → Q0 e a w → Q e a w) → wpList P ops Q [o] a w
def HeffG (P : Program) (M : Nat → Prop) (w0 : Bs) (Df : List Deferred) (Q0 : Exit → Act → World → Prop) (n : Nat) (ops : List Oper) (o : Oper) (σ1 : St) (I : List It) (d : Nat) (ch : Ch) (N : List It → AV → Prop) : Prop :=
  ∀ (σD : St) (a : Act) (w : World) (Q : Exit → Act → World → Prop), S M w0 a w n I (σ1 ++ σD) Df → chFree (σ1 ++ σD) d = true →
    (∀ I' y a' w', N I' y → S M w0 a' w' n I' ((d, ch, y) :: (σ1 ++ σD)) Df → wpList P ops.toArray Q [] a' w') → (∀ e a w, e ≠ .normal → Q0 e a w → Q e a w) → wpList P ops.toArray Q [o] a w
inductive Pt where
  | leaf (need : List Bool)
  | next (nd : List Bool) (e : Nat) (lv : List Bool) (t : Pt)
  | or (t u : Pt)
def Pt.rems : Pt → List Nat
  | .leaf _ => []
  | .next _ e _ t => e :: t.rems
  | .or t _ => t.rems
def Pt.heads : Pt → List Nat
  | .leaf _ => []
  | .next _ e _ _ => [e]
  | .or t u => t.heads ++ u.heads
def Pt.need : Pt → List Bool
  | .leaf nd => nd
  | .next nd _ _ _ => nd
  | .or t _ => t.need
def PhT (P : Program) (ops : List Oper) (M : Nat → Prop) (w0 : Bs) (Df : List Deferred) (Q0 : Exit → Act → World → Prop) (n : Nat) (K : List It → St → Prop) (σ0 : St) : Pt → List Ent → List It → Prop
  | .leaf need, E, I => hopsG P ops M w0 Df n I need ops E σ0 ∧ K I (stD (fun _ => true) 0 E σ0)
  | .or t u, E, I => PhT P ops M w0 Df Q0 n K σ0 t E I ∧ PhT P ops M w0 Df Q0 n K σ0 u E I
  | .next nd e lv rem, E, I => hopsG P ops M w0 Df n I nd ops E σ0 ∧ ((∃ oe d, ops[e]? = some oe ∧ oe.dst = some d ∧ oe.guard = none ∧ Nat.blt d n = true ∧ chFree (stD (fun i => decide (i < e)) 0 E σ0) d = true ∧
      Heff P M w0 Df Q0 n oe (only (looks ops oe) (stD (fun i => decide (i < e)) 0 E σ0)) I d fun I' y => ∃ E', agr lv E E' ∧ E'[e]? = some (d, [], y) ∧ PhT P ops M w0 Df Q0 n K σ0 rem E' I') ∨
      (∃ oe, ops[e]? = some oe ∧ oe.dst = none ∧ oe.guard = none ∧
      Heff0 P M w0 Df Q0 n oe (only (looks ops oe) (stD (fun i => decide (i < e)) 0 E σ0)) I fun I' => ∃ E', agr lv E E' ∧ E'[e]? = some (n, [], .lit undef) ∧ PhT P ops M w0 Df Q0 n K σ0 rem E' I') ∨
      ∃ oe d ch, ops[e]? = some oe ∧ oe.dst = some d ∧ Nat.blt d n = true ∧ chFree (stD (fun i => decide (i < e)) 0 E σ0) d = true ∧
      HeffG P M w0 Df Q0 n ops oe (only (looks ops oe) (stD (fun i => decide (i < e)) 0 E σ0)) I d ch fun I' y => ∃ E', agr lv E E' ∧ E'[e]? = some (d, ch, y) ∧ PhT P ops M w0 Df Q0 n K σ0 rem E' I')
def slotsOk (n : Nat) (ops : List Oper) : Bool := ops.all fun o => (looks ops o).all (Nat.blt · n) && (match o.dst with | some d => Nat.blt d n | none => true)
def mayRun (an : List Nat) (rem : List Nat) (j : Nat) : Bool := !(rem.any fun e => Nat.beq e j || (an.getD j 0).testBit e)
def maskOk (ops : List Oper) (an : List Nat) (done rem : List Nat) (nd : List Bool) : Bool :=
  (List.range ops.length).all fun j => !(mayRun an rem j && !(done.any fun e => Nat.beq e j || (an.getD e 0).testBit j)) || nd.getD j false
def liveOk (ops : List Oper) (an : List Nat) (rem : List Nat) (lv : List Bool) : Bool :=
  (List.range ops.length).all fun j => !(mayRun an rem j) || lv.getD j false
def lvlOk (an : List Nat) (t : Pt) : Bool := t.rems.all fun i => t.heads.any fun h => Nat.beq h i || (an.getD i 0).testBit h
def sameSet (l l' : List Nat) : Bool := (l.all fun i => l'.any (Nat.beq i)) && (l'.all fun i => l.any (Nat.beq i))
def subOk (ops : List Oper) (an : List Nat) : List Nat → Pt → Bool
  | done, .leaf nd => maskOk ops an done [] nd
  | done, .next nd e lv t => maskOk ops an done (e :: t.rems) nd && liveOk ops an (e :: t.rems) lv && (lvlOk an t && !(t.rems.any (Nat.beq e))) && subOk ops an (e :: done) t
  | done, .or t u => subOk ops an done t && subOk ops an done u && sameSet t.rems u.rems
def ptOk (ops : List Oper) (an : List Nat) (t : Pt) : Bool := lvlOk an t && subOk ops an [] t
theorem sameSet_mem {l l' : List Nat} (h : sameSet l l' = true) (i : Nat) : i ∈ l ↔ i ∈ l' := by
  unfold sameSet at h
  rw [Bool.and_eq_true, List.all_eq_true, List.all_eq_true] at h
  constructor
  · intro hi
    obtain ⟨j, hj, hb⟩ := List.any_eq_true.1 (h.1 i hi)
    rw [Nat.eq_of_beq_eq_true hb]; exact hj
  · intro hi
    obtain ⟨j, hj, hb⟩ := List.any_eq_true.1 (h.2 i hi)
    rw [Nat.eq_of_beq_eq_true hb]; exact hj
theorem PhT.hops {ops : List Oper} {K : List It → St → Prop} {σ0 : St} {E : List Ent} : ∀ {t : Pt}, PhT P ops M w0 Df Q0 n K σ0 t E I → hopsG P ops M w0 Df n I t.need ops E σ0
  | .leaf _, h => h.1
  | .next _ _ _ _, h => h.1
  | .or t u, h => PhT.hops (t := t) h.1
theorem subOk_mask {ops : List Oper} {an : List Nat} {done : List Nat} : ∀ {t : Pt}, subOk ops an done t = true → maskOk ops an done t.rems t.need = true
  | .leaf _, h => h
  | .next _ _ _ _, h => by simp only [subOk, Bool.and_eq_true] at h; exact h.1.1.1
  | .or t u, h => by simp only [subOk, Bool.and_eq_true] at h; exact subOk_mask (t := t) h.1.1
theorem heads_rems {ops : List Oper} {an : List Nat} {done : List Nat} : ∀ {t : Pt}, subOk ops an done t = true → ∀ i ∈ t.heads, i ∈ t.rems
  | .leaf _, _, i, hi => by simp [Pt.heads] at hi
  | .next _ _ _ _, _, i, hi => by simp [Pt.heads] at hi; simp [Pt.rems, hi]
  | .or t u, h, i, hi => by
    simp only [subOk, Bool.and_eq_true] at h
    simp only [Pt.heads, List.mem_append] at hi
    rcases hi with hi | hi
    · exact heads_rems (t := t) h.1.1 i hi
    · exact (sameSet_mem h.2 i).2 (heads_rems (t := u) h.1.2 i hi)
theorem heads_some : ∀ {t : Pt}, t.rems ≠ [] → ∃ i, i ∈ t.heads
  | .leaf _, h => absurd rfl h
  | .next _ e _ _, _ => ⟨e, by simp [Pt.heads]⟩
  | .or t u, h => by
    obtain ⟨i, hi⟩ := heads_some (t := t) h
    exact ⟨i, by simp [Pt.heads, hi]⟩
theorem PhT.sel {ops : List Oper} {K : List It → St → Prop} {σ0 : St} {E : List Ent} {an : List Nat} {done : List Nat} {i : Nat} : ∀ {t : Pt}, subOk ops an done t = true → i ∈ t.heads → PhT P ops M w0 Df Q0 n K σ0 t E I →
    ∃ nd lv u, PhT P ops M w0 Df Q0 n K σ0 (.next nd i lv u) E I ∧ subOk ops an done (.next nd i lv u) = true ∧ ∀ j, j ∈ t.rems ↔ j ∈ (Pt.next nd i lv u).rems
  | .leaf _, _, hi, _ => by simp [Pt.heads] at hi
  | .next nd e lv u, h, hi, hW => by
    simp only [Pt.heads, List.mem_singleton] at hi
    subst hi
    exact ⟨nd, lv, u, hW, h, fun j => Iff.rfl⟩
  | .or t u, h, hi, hW => by
    simp only [subOk, Bool.and_eq_true] at h
    simp only [Pt.heads, List.mem_append] at hi
    rcases hi with hi | hi
    · exact PhT.sel (t := t) h.1.1 hi hW.1
    · obtain ⟨nd, lv, v, h1, h2, h3⟩ := PhT.sel (t := u) h.1.2 hi hW.2
      exact ⟨nd, lv, v, h1, h2, fun j => (sameSet_mem h.2 j).trans (h3 j)⟩
theorem PhT.bottom {ops : List Oper} {K : List It → St → Prop} {σ0 : St} {E : List Ent} : ∀ {t : Pt}, t.rems = [] → PhT P ops M w0 Df Q0 n K σ0 t E I → K I (stD (fun _ => true) 0 E σ0)
  | .leaf _, _, h => h.2
  | .next _ _ _ _, h, _ => by simp [Pt.rems] at h
  | .or t u, h, hW => PhT.bottom (t := t) h hW.1
theorem hopsG_list {ops : List Oper} : ∀ {ms : List Bool} {l : List Oper} {E : List Ent} {σ : St}, hopsG P ops M w0 Df n I ms l E σ → E.length = l.length ∧
    ∀ (j : Nat) (o : Oper), l[j]? = some o → ∃ e, E[j]? = some e ∧ (o.dst = some e.1 ∨ (o.dst = none ∧ e = (n, [], .lit undef) ∧ ms.getD j false = false)) ∧ (e.2.1.all fun p => (looks ops o).any (Nat.beq p.1)) = true ∧ (ms.getD j false = true → Hop P ops M w0 Df n I (stD (fun i => decide (i < j)) 0 E σ) o e.1 e.2.1 e.2.2)
  | [], [], [], σ, _ => ⟨rfl, fun j o h => by simp at h⟩
  | m :: ms, o :: r, e :: E, σ, h => by
    obtain ⟨⟨h1, h2, h3⟩, h4⟩ := h
    obtain ⟨hl, hE⟩ := hopsG_list h4
    refine ⟨by simp [hl], ?_⟩
    intro j o' ho'
    cases j with
    | zero =>
      simp only [List.getElem?_cons_zero, Option.some.injEq] at ho'
      subst ho'
      refine ⟨e, rfl, by simpa using h1, h2, fun hm => ?_⟩
      have : stD (fun i => decide (i < 0)) 0 (e :: E) σ = σ := by
        rw [show (fun i => decide (i < 0)) = (fun _ : Nat => false) from by funext i; simp]
        exact stD_false _ _ _
      rw [this]
      exact h3 (by simpa using hm)
    | succ j =>
      obtain ⟨e', g1, g2, g3, g4⟩ := hE j o' (by simpa using ho')
      refine ⟨e', by simpa using g1, by simpa using g2, g3, fun hm => ?_⟩
      have : stD (fun i => decide (i < j + 1)) 0 (e :: E) σ = stD (fun i => decide (i < j)) 0 E (e :: σ) := by
        simp only [stD]
        rw [stD_shift]
        simp only [Nat.zero_lt_succ, decide_true, cond_true, Nat.add_lt_add_iff_right]
      rw [this]
      exact g4 (by simpa using hm)
  | [], o :: r, _, σ, h => by simp [hopsG] at h
  | [], [], e :: E, σ, h => by simp [hopsG] at h
  | m :: ms, [], _, σ, h => by simp [hopsG] at h
  | m :: ms, o :: r, [], σ, h => by simp [hopsG] at h
theorem agr_at : ∀ {ms : List Bool} {E E' : List Ent}, agr ms E E' → E'.length = E.length ∧ ∀ j, ms.getD j false = true → E'[j]? = E[j]?
  | [], [], [], _ => ⟨rfl, fun j h => by simp at h⟩
  | true :: ms, x :: l, x' :: l', h => by
    obtain ⟨rfl, h⟩ := h
    obtain ⟨h1, h2⟩ := agr_at h
    refine ⟨by simp [h1], fun j hj => ?_⟩
    cases j with
    | zero => rfl
    | succ j => simpa using h2 j (by simpa using hj)
  | false :: ms, x :: l, x' :: l', h => by
    obtain ⟨h1, h2⟩ := agr_at (ms := ms) h
    refine ⟨by simp [h1], fun j hj => ?_⟩
    cases j with
    | zero => simp at hj
    | succ j => simpa using h2 j (by simpa using hj)
  | [], [], _ :: _, h => by simp [agr] at h
  | [], _ :: _, _, h => by simp [agr] at h
  | true :: ms, [], _, h => by simp [agr] at h
  | false :: ms, [], _, h => by simp [agr] at h
  | true :: ms, _ :: _, [], h => by simp [agr] at h
  | false :: ms, _ :: _, [], h => by simp [agr] at h
theorem look_append {σ1 σ2 : St} {t : Nat} : look (σ1 ++ σ2) t = match look σ1 t with | some x => some x | none => look σ2 t := by
  induction σ1 with
  | nil => rfl
  | cons e r ih =>
    rw [List.cons_append]
    simp only [look]
    cases Nat.beq e.1 t with
    | true => rfl
    | false => simpa using ih
theorem list_wp1 {o : Oper} {ops : Array Oper} {K : Act → World → Prop} {a : Act} {w : World} (hw : Region.wanted o (yielded ops a.tmps) = true) (h : ∀ Q' : Exit → Act → World → Prop, (∀ a w, K a w → wpList P ops Q' [] a w) → (∀ e a w, e ≠ .normal → Q e a w → Q' e a w) → wpList P ops Q' [o] a w) : o.wp P a w K Q ∨ (o.asks P a w ∧ LetsOut Q) := by
  have h1 := h (fun e a w => (e = .normal ∧ K a w) ∨ (e ≠ .normal ∧ Q e a w)) (fun a w hk => .inl ⟨rfl, hk⟩) (fun e a w he hq => .inr ⟨he, hq⟩)
  unfold wpList at h1
  rw [if_pos hw] at h1
  have hn : ∀ (a : Act) (w : World), wpList P ops (fun e a w => (e = .normal ∧ K a w) ∨ (e ≠ .normal ∧ Q e a w)) [] a w → K a w := by
    intro a w h
    rcases h with ⟨_, h⟩ | ⟨h, _⟩
    · exact h
    · exact absurd rfl h
  have hlo : LetsOut (fun e a w => (e = .normal ∧ K a w) ∨ (e ≠ .normal ∧ Q e a w)) → LetsOut Q := by
    rintro ⟨a, w, h⟩
    rcases h with ⟨h, _⟩ | ⟨_, h⟩
    · cases h
    · exact ⟨a, w, h⟩
  rcases h1 with h1 | ⟨h1, h2⟩
  · left
    unfold Oper.wp at *
    generalize (execOp a.eval o).run P w = r at *
    cases r with
    | ok x w' =>
      cases x with
      | value v => exact hn _ _ h1
      | skip => exact hn _ _ h1
      | defer x => exact hn _ _ h1
      | enter f args =>
        refine h1.mono ?_
        rintro e w'' he
        cases e with
        | returned v => exact hn _ _ he
        | panicked chain =>
          rcases he with ⟨h, _⟩ | ⟨_, h⟩
          · cases h
          · exact h
        | outgrown => exact hlo he
      | row row args => exact h1.mono fun v w'' h => hn _ _ h
      | _ => exact h1.elim
    | halt x w' =>
      cases x with
      | panic v =>
        rcases h1 with ⟨h, _⟩ | ⟨_, h⟩
        · cases h
        · exact h
      | _ => exact h1.elim
  · exact .inr ⟨h1, hlo h2⟩
theorem list_wp {o : Oper} {ops : Array Oper} {K : Act → World → Prop} {a : Act} {w : World} (hg : o.guard = none) (h : ∀ Q' : Exit → Act → World → Prop, (∀ a w, K a w → wpList P ops Q' [] a w) → (∀ e a w, e ≠ .normal → Q e a w → Q' e a w) → wpList P ops Q' [o] a w) : o.wp P a w K Q ∨ (o.asks P a w ∧ LetsOut Q) :=
  list_wp1 (by simp [Region.wanted, hg]) h
theorem list_wpG {o : Oper} {ops : Array Oper} {K : Act → World → Prop} {a : Act} {w : World} (h : ∀ Q' : Exit → Act → World → Prop, (∀ a w, K a w → wpList P ops Q' [] a w) → (∀ e a w, e ≠ .normal → Q e a w → Q' e a w) → wpList P ops Q' [o] a w) : if Region.wanted o (yielded ops a.tmps) = true then (o.wp P a w K Q ∨ (o.asks P a w ∧ LetsOut Q)) else K (a.put o.dst undef) w := by
  by_cases hw : Region.wanted o (yielded ops a.tmps) = true
  · rw [if_pos hw]; exact list_wp1 hw h
  · rw [if_neg hw]
    have h1 := h (fun e a w => (e = .normal ∧ K a w) ∨ (e ≠ .normal ∧ Q e a w)) (fun a w hk => .inl ⟨rfl, hk⟩) (fun e a w he hq => .inr ⟨he, hq⟩)
    unfold wpList at h1
    rw [if_neg hw] at h1
    rcases h1 with ⟨_, h⟩ | ⟨h, _⟩
    · exact h
    · exact absurd rfl h
theorem stD_of_agree {D : Nat → Bool} {E E' : List Ent} {σ : St} : ∀ (k : Nat) (l l' : List Ent) (σ : St), l'.length = l.length → (∀ j, D (k + j) = true → l'[j]? = l[j]?) → stD D k l' σ = stD D k l σ
  | k, [], [], σ, _, _ => rfl
  | k, x :: l, x' :: l', σ, hl, h => by
    simp only [stD]
    have h0 := h 0
    simp only [Nat.add_zero, List.getElem?_cons_zero, Option.some.injEq] at h0
    have hr := stD_of_agree (D := D) (E := E) (E' := E') (σ := σ) (k + 1) l l' (bif D k then x' :: σ else σ) (by simpa using hl) fun j hj => by
      have := h (j + 1) (by rw [show k + (j + 1) = k + 1 + j from by omega]; exact hj)
      simpa using this
    rw [hr]
    cases hD : D k with
    | false => rfl
    | true => rw [h0 hD]
  | k, [], _ :: _, σ, hl, _ => by simp at hl
  | k, _ :: _, [], σ, hl, _ => by simp at hl
theorem look_prepend {σ1 σD : St} {t : Nat} (h : ∀ x, look σ1 t = some x → look σD t = some x) : look (σ1 ++ σD) t = look σD t := by
  rw [look_append]
  cases hl : look σ1 t with
  | none => rfl
  | some x => exact (h x hl).symm
theorem chFree_append {σ1 σ2 : St} {d : Nat} (h1 : chFree σ1 d = true) (h2 : chFree σ2 d = true) : chFree (σ1 ++ σ2) d = true := by
  unfold chFree at *
  rw [List.all_append, h1, h2]; rfl
theorem chFree_only {l : List Nat} {σ : St} {d : Nat} (h : chFree σ d = true) : chFree (only l σ) d = true := by
  unfold chFree only at *
  rw [List.all_eq_true] at *
  intro e he
  exact h e (List.mem_filter.1 he).1
theorem wpAny_eff {ops : List Oper} {K : List It → St → Prop} {σ0 : St} (hord : ordOk ops = true) (hslots : slotsOk n ops = true) (hQ : ∀ I σ a w, K I σ → S M w0 a w n I σ Df → Q .normal a w) :
    ∀ (fuel : Nat) (done : List Nat) (ph : Pt) (E : List Ent) (I : List It) (listed : Array Bool) (a : Act) (w : World), lvlOk (ancs ops) ph = true → subOk ops (ancs ops) done ph = true → listed.size = ops.length → listed.toList.count false = fuel →
      (∀ j o, ops[j]? = some o → listed.getD j false = true → ∀ e ∈ binding o, listed.getD e false = true) → (∀ e ∈ done, listed.getD e false = true) → (∀ e ∈ ph.rems, listed.getD e false = false) →
      PhT P ops M w0 Df Q n K σ0 ph E I → S M w0 a w n I (stD (fun j => listed.getD j false) 0 E σ0) Df → wpAny P .any ops.toArray Q fuel listed a w := by
  intro fuel
  have noneLeft : ∀ (listed : Array Bool), listed.size = ops.length → listed.toList.count false = 0 → (∀ j, j < ops.length → listed.getD j false = true) := by
    intro listed hs hc j hj
    have h1 : false ∉ listed.toList := List.count_eq_zero.1 hc
    have h2 : listed[j]'(by omega) ∈ listed.toList := by
      rw [Array.mem_toList_iff]; exact Array.getElem_mem _
    cases hb : listed[j]'(by omega) with
    | true => simp [Array.getD_eq_getD_getElem?, hs, hj, hb]
    | false => rw [hb] at h2; exact absurd h2 h1
  have hready : ∀ (listed : Array Bool), listed.size = ops.length → (∃ j, j < ops.length ∧ listed.getD j false = false) → Region.ready .any ops.toArray listed ≠ [] := by
    intro listed hs hex hnil
    have : ∀ j, j < ops.length → listed.getD j false = true := by
      intro j
      induction j using Nat.strongRecOn with
      | _ j ih =>
        intro hj
        cases hb : listed.getD j false with
        | true => rfl
        | false =>
          exfalso
          have hm : j ∈ Region.ready .any ops.toArray listed := by
            rw [mem_ready]
            refine ⟨?_, ops[j], by simp [hj], ?_⟩
            · have hlt : j < listed.size := by omega
              simpa [Array.getD_eq_getD_getElem?, hlt] using hb
            · intro e he hbnd
              have hmem : e.on ∈ binding ops[j] := by
                unfold binding
                refine List.mem_map.2 ⟨e, List.mem_filter.2 ⟨by simpa using he, hbnd⟩, rfl⟩
              have hlt := (ordFrom_at (k := 0) hord (j := j) (o := ops[j]) (List.getElem?_eq_getElem hj)).1 _ hmem
              rw [Nat.zero_add] at hlt
              exact ih e.on hlt (by omega)
          rw [hnil] at hm
          cases hm
    obtain ⟨j, hj, hf⟩ := hex
    rw [this j hj] at hf
    cases hf
  have hlk : ∀ (j : Nat) (o : Oper), ops[j]? = some o → ∀ t ∈ looks ops o, t < n := by
    intro j o ho t ht
    unfold slotsOk at hslots
    rw [List.all_eq_true] at hslots
    have h := hslots o (List.mem_of_getElem? ho)
    rw [Bool.and_eq_true, List.all_eq_true] at h
    exact Nat.le_of_ble_eq_true (h.1 t ht)
  have hdl : ∀ (j : Nat) (o : Oper) (d : Nat), ops[j]? = some o → o.dst = some d → d < n := by
    intro j o d ho hd
    unfold slotsOk at hslots
    rw [List.all_eq_true] at hslots
    have h := hslots o (List.mem_of_getElem? ho)
    rw [Bool.and_eq_true, hd] at h
    exact Nat.le_of_ble_eq_true h.2
  induction fuel with
  | zero =>
    intro done ph E I listed a w hlv hph hs hc hcl hdone hrem hW hk
    have hall := noneLeft listed hs hc
    have hHE := hW.hops
    obtain ⟨hlen, _⟩ := hopsG_list hHE
    have hnil : ph.rems = [] := by
      false_or_by_contra
      rename_i hne
      obtain ⟨e, he⟩ := heads_some hne
      have h1 := hrem e (heads_rems hph e he)
      obtain ⟨nd, lv, u, hW', _, _⟩ := hW.sel hph he
      obtain ⟨_, ⟨oe, d, ho, _⟩ | ⟨oe, ho, _⟩ | ⟨oe, d, ch, ho, _⟩⟩ := hW'
      · rw [hall e (List.getElem?_eq_some_iff.1 ho).1] at h1
        cases h1
      · rw [hall e (List.getElem?_eq_some_iff.1 ho).1] at h1
        cases h1
      · rw [hall e (List.getElem?_eq_some_iff.1 ho).1] at h1
        cases h1
    refine ⟨?_, hQ I _ a w (hW.bottom hnil) ?_⟩
    · apply List.eq_nil_iff_forall_not_mem.2
      intro j hj
      rw [mem_ready] at hj
      obtain ⟨h0, o, ho, _⟩ := hj
      have hlt : j < ops.length := by simpa using (Array.getElem?_eq_some_iff.1 ho).1
      have h1 := hall j hlt
      have hlt' : j < listed.size := by omega
      simp [Array.getD_eq_getD_getElem?, hlt'] at h0 h1
      rw [h0] at h1; cases h1
    · rw [stD_congr E 0 σ0 (D' := fun j => listed.getD j false) fun j hj => by simpa using (hall j (by omega)).symm]
      exact hk
  | succ fuel ih =>
    intro done ph E I listed a w hlv hph hs hc hcl hdone hrem hW hk
    have hHE := hW.hops
    obtain ⟨hlen, hE⟩ := hopsG_list hHE
    have hmask : maskOk ops (ancs ops) done ph.rems ph.need = true := subOk_mask hph
    have hopE : ∀ (j : Nat) (e : Ent), E[j]? = some e → ∃ o, ops[j]? = some o ∧ (o.dst = some e.1 ∨ (o.dst = none ∧ e = (n, [], .lit undef))) ∧ (e.2.1.all fun p => (looks ops o).any (Nat.beq p.1)) = true := by
      intro j e he
      have hj : j < ops.length := by rw [← hlen]; exact (List.getElem?_eq_some_iff.1 he).1
      obtain ⟨e', h1, h2, h3, _⟩ := hE j ops[j] (List.getElem?_eq_getElem hj)
      rw [h1] at he
      injection he with he
      subst he
      exact ⟨ops[j], List.getElem?_eq_getElem hj, h2.imp id (fun h => ⟨h.1, h.2.1⟩), h3⟩
    refine ⟨fun hnil => ?_, fun i hi => ?_⟩
    · exfalso
      refine hready listed hs ?_ hnil
      false_or_by_contra
      rename_i hno
      have : listed.toList.count false = 0 := by
        rw [List.count_eq_zero]
        intro hm
        obtain ⟨j, hj⟩ := List.mem_iff_getElem?.1 hm
        have hlt : j < listed.size := by
          have := (List.getElem?_eq_some_iff.1 hj).1; simpa using this
        refine hno ⟨j, by omega, ?_⟩
        have : listed[j]? = some false := by simpa using hj
        simp [Array.getD_eq_getD_getElem?, this]
      omega
    · rw [mem_ready] at hi
      obtain ⟨hi0, o, ho, hedges⟩ := hi
      have ho' : ops[i]? = some o := by simpa using ho
      have hilt : i < ops.length := (List.getElem?_eq_some_iff.1 ho').1
      have hilt' : i < listed.size := by omega
      have hiF : listed.getD i false = false := by simpa [Array.getD_eq_getD_getElem?, hilt'] using hi0
      obtain ⟨⟨d, c, y⟩, hEi, hdst0, hcl', hop0⟩ := hE i o ho'
      have hed : ∀ e ∈ binding o, listed.getD e false = true := by
        intro e he
        unfold binding at he
        obtain ⟨x, hx, rfl⟩ := List.mem_map.1 he
        obtain ⟨h1, h2⟩ := List.mem_filter.1 hx
        exact hedges x (by simpa using h1) h2
      have hanc : ∀ j, ((ancs ops).getD i 0).testBit j = true → listed.getD j false = true ∨ j = i := by
        refine closed_ancs (ops := ops) (D := fun k => listed.getD k false = true ∨ k = i) ?_ i o ho' (.inr rfl)
        intro j' o' ho'' hD e he
        rcases hD with hD | rfl
        · exact .inl (hcl j' o' ho'' hD e he)
        · rw [ho'] at ho''; injection ho'' with ho''; subst ho''
          exact .inl (hed e he)
      have hancL : ∀ j, listed.getD j false = true → ∀ k, ((ancs ops).getD j 0).testBit k = true → listed.getD k false = true := by
        intro j hj
        by_cases hlt : j < ops.length
        · exact closed_ancs (ops := ops) (D := fun k => listed.getD k false = true) (fun j' o' ho'' hD e he => hcl j' o' ho'' hD e he) j ops[j] (List.getElem?_eq_getElem hlt) hj
        · intro k hk'
          exfalso
          rw [Array.getD_eq_getD_getElem?, Array.getElem?_eq_none (by omega)] at hj
          cases hj
      have hordi := ordFrom_at (k := 0) hord (j := i) (o := o) ho'
      simp only [Nat.zero_add] at hordi
      have hclash : ∀ (j : Nat) (oj : Oper), ops[j]? = some oj → j ≠ i → clash ops oj o = true → clash ops o oj = true → listed.getD j false = decide (j < i) := by
        intro j oj hoj hne hc1 hc2
        rcases Nat.lt_or_ge j i with hlt | hge
        · have hb := hordi.2 j oj hlt hoj hc1
          rcases hanc j hb with h | h
          · rw [h]; simp [hlt]
          · exact absurd h hne
        · have hlt : i < j := by omega
          have hordj := ordFrom_at (k := 0) hord (j := j) (o := oj) hoj
          simp only [Nat.zero_add] at hordj
          have hb := hordj.2 i o hlt ho' hc2
          cases hD : listed.getD j false with
          | false => simp; omega
          | true =>
            have := hancL j hD i hb
            rw [hiF] at this; cases this
      have hA : ∀ (t : Nat), t ∈ looks ops o → ∀ (j : Nat) (e : Ent), E[j]? = some e → e.1 = t → listed.getD j false = decide (j < i) := by
        intro t ht j e he het
        obtain ⟨oj, hoj, hdj, _⟩ := hopE j e he
        by_cases hji : j = i
        · subst hji; rw [hiF]; simp
        · rcases hdj with hdj | ⟨_, rfl⟩
          · refine hclash j oj hoj hji ?_ ?_ <;> · simp [clash, hasD, hdj, het, any_beq.2 ht]
          · have := hlk i o ho' t ht
            dsimp only at het
            omega
      have hB : o.dst = some d → ∀ (j : Nat) (e : Ent), E[j]? = some e → j ≠ i → e.1 = d → listed.getD j false = decide (j < i) := by
        intro hdst j e he hne het
        obtain ⟨oj, hoj, hdj, _⟩ := hopE j e he
        rcases hdj with hdj | ⟨_, rfl⟩
        · refine hclash j oj hoj hne ?_ ?_ <;> · simp [clash, hasD, hdj, het, hdst]
        · have := hdl i o d ho' hdst
          dsimp only at het
          omega
      have hC : o.dst = some d → ∀ (j : Nat) (e : Ent), E[j]? = some e → j ≠ i → cFree e.2.1 d = false → listed.getD j false = decide (j < i) := by
        intro hdst j e he hne hcf
        obtain ⟨oj, hoj, hdj, hcj⟩ := hopE j e he
        have hd : d ∈ looks ops oj := by
          unfold cFree at hcf
          rw [List.all_eq_false] at hcf
          obtain ⟨p, hp, hb⟩ := hcf
          have hpd : p.1 = d := by
            cases hbb : Nat.beq p.1 d with
            | true => exact Nat.eq_of_beq_eq_true hbb
            | false => simp [hbb] at hb
          rw [List.all_eq_true] at hcj
          rw [← hpd]
          exact any_beq.1 (hcj p hp)
        refine hclash j oj hoj hne ?_ ?_ <;> · simp [clash, hasD, hdst, any_beq.2 hd]
      have hlook : ∀ (t : Nat), t ∈ looks ops o → look (stD (fun j => listed.getD j false) 0 E σ0) t = look (stD (fun j => decide (j < i)) 0 E σ0) t := by
        intro t ht
        exact look_stD_congr fun j e he het => hA t ht j e he het
      have hfree : o.dst = some d → chFree (stD (fun j => decide (j < i)) 0 E σ0) d = true → chFree (stD (fun j => listed.getD j false) 0 E σ0) d = true := by
        intro hdst h0
        unfold chFree at h0 ⊢
        rw [List.all_eq_true] at h0 ⊢
        intro e he
        rcases mem_stD E 0 σ0 he with h | ⟨j, hj, hD⟩
        · exact h0 e (stD_mem E 0 σ0 (.inl h))
        · rw [Nat.zero_add] at hD
          by_cases hji : j = i
          · subst hji; rw [hiF] at hD; cases hD
          · cases hcf : cFree e.2.1 d with
            | true => rfl
            | false =>
              have h1 := hC hdst j e hj hji hcf
              rw [hD] at h1
              have := h0 e (stD_mem E 0 σ0 (.inr ⟨j, hj, by rw [Nat.zero_add]; exact h1.symm⟩))
              rw [hcf] at this; exact this
      have hget : ∀ j, (listed.setIfInBounds i true).getD j false = if j = i then true else listed.getD j false := by
        intro j
        simp only [Array.getD_eq_getD_getElem?, Array.getElem?_setIfInBounds]
        by_cases h : i = j
        · subst h; simp [hilt']
        · simp [h, Ne.symm h]
      have hcount' : (listed.setIfInBounds i true).toList.count false = fuel := by
        rw [Array.toList_setIfInBounds]
        have hli : listed.toList[i]? = some false := by
          have : listed[i]? = some false := by
            simp [Array.getElem?_eq_getElem hilt'] 
            simpa [Array.getD_eq_getD_getElem?, hilt'] using hiF
          simpa using this
        have hcount : ∀ (l : List Bool) (i : Nat), l[i]? = some false → (l.set i true).count false + 1 = l.count false := by
          intro l
          induction l with
          | nil => intro i h; simp at h
          | cons b l ihl =>
            intro i h
            cases i with
            | zero =>
              simp only [List.getElem?_cons_zero, Option.some.injEq] at h
              subst h
              simp
            | succ i =>
              have := ihl i (by simpa using h)
              simp only [List.set_cons_succ, List.count_cons]
              omega
        have := hcount _ _ hli
        omega
      have hclosed' : ∀ j o, ops[j]? = some o → (listed.setIfInBounds i true).getD j false = true → ∀ e ∈ binding o, (listed.setIfInBounds i true).getD e false = true := by
        intro j o' ho'' hD e he
        rw [hget] at hD ⊢
        by_cases hji : j = i
        · subst hji
          rw [ho'] at ho''; injection ho'' with ho''; subst ho''
          split
          · rfl
          · exact hed e he
        · rw [if_neg hji] at hD
          split
          · rfl
          · exact hcl j o' ho'' hD e he
      have htell : o.dst = some d → ∀ (E' : List Ent) (c' : Ch) (y' : AV), E'.length = E.length → (∀ j, listed.getD j false = true → E'[j]? = E[j]?) → E'[i]? = some (d, c', y') → ∀ t x, look (stD (fun j => (listed.setIfInBounds i true).getD j false) 0 E' σ0) t = some x → look ((d, c', y') :: stD (fun j => listed.getD j false) 0 E σ0) t = some x := by
        intro hdst E' c' y' hlE hagr hE'i t x hx
        have hEE : stD (fun j => listed.getD j false) 0 E' σ0 = stD (fun j => listed.getD j false) 0 E σ0 := stD_of_agree (E := E) (E' := E') (σ := σ0) 0 E E' σ0 hlE fun j hj => hagr j (by simpa using hj)
        have hB' : ∀ (j : Nat) (e : Ent), E'[j]? = some e → j ≠ i → listed.getD j false = true → e.1 = d → j < i := by
          intro j e he hne hl het
          rw [hagr j hl] at he
          have := hB hdst j e he hne het
          rw [hl] at this
          simpa using this.symm
        rcases look_stD (D := fun j => (listed.setIfInBounds i true).getD j false) (t := t) E' 0 σ0 with ⟨j, e, h1, h2, h3, h4, h5⟩ | ⟨h1, h2⟩
        · simp only [Nat.zero_add] at h2 h4
          by_cases htd : t = d
          · subst htd
            have hji : j = i := by
              false_or_by_contra
              rename_i hne
              rw [hget, if_neg hne] at h2
              have hlt := hB' j e h1 hne h2 h3
              exact h4 i _ hlt hE'i (by rw [hget, if_pos rfl]) rfl
            subst hji
            rw [hE'i] at h1
            injection h1 with h1
            rw [h5, ← h1] at hx
            simp only [look, Nat.beq_refl, cond_true]
            exact hx
          · have hcongr : look (stD (fun j => (listed.setIfInBounds i true).getD j false) 0 E' σ0) t = look (stD (fun j => listed.getD j false) 0 E' σ0) t := by
              refine look_stD_congr fun j e he het => ?_
              rw [hget]
              by_cases hji : j = i
              · subst hji; rw [hE'i] at he; injection he with he; subst he; exact absurd het.symm htd
              · rw [if_neg hji]
            have hb : Nat.beq d t = false := by
              cases hb : Nat.beq d t with
              | false => rfl
              | true => exact absurd (Nat.eq_of_beq_eq_true hb).symm htd
            simp only [look, hb, cond_false]
            rw [← hEE, ← hcongr]; exact hx
        · simp only [Nat.zero_add] at h1
          have htd : ¬ t = d := by
            rintro rfl
            exact h1 i _ hE'i (by rw [hget, if_pos rfl]) rfl
          have hcongr : look (stD (fun j => (listed.setIfInBounds i true).getD j false) 0 E' σ0) t = look (stD (fun j => listed.getD j false) 0 E' σ0) t := by
            refine look_stD_congr fun j e he het => ?_
            rw [hget]
            by_cases hji : j = i
            · subst hji; rw [hE'i] at he; injection he with he; subst he; exact absurd het.symm htd
            · rw [if_neg hji]
          have hb : Nat.beq d t = false := by
            cases hb : Nat.beq d t with
            | false => rfl
            | true => exact absurd (Nat.eq_of_beq_eq_true hb).symm htd
          simp only [look, hb, cond_false]
          rw [← hEE, ← hcongr]; exact hx
      have htell0 : ∀ (E' : List Ent), E'.length = E.length → (∀ j, listed.getD j false = true → E'[j]? = E[j]?) → E'[i]? = some (n, [], .lit undef) → (∀ (j : Nat) (e : Ent), E'[j]? = some e → e.1 = n → e = (n, [], .lit undef)) → ∀ t x, look (stD (fun j => (listed.setIfInBounds i true).getD j false) 0 E' σ0) t = some x → (t = n ∧ x = ([], .lit undef)) ∨ look (stD (fun j => listed.getD j false) 0 E σ0) t = some x := by
        intro E' hlE hagr hE'i hE'n t x hx
        have hEE : stD (fun j => listed.getD j false) 0 E' σ0 = stD (fun j => listed.getD j false) 0 E σ0 := stD_of_agree (E := E) (E' := E') (σ := σ0) 0 E E' σ0 hlE fun j hj => hagr j (by simpa using hj)
        by_cases htn : t = n
        · left
          subst htn
          refine ⟨rfl, ?_⟩
          rcases look_stD (D := fun j => (listed.setIfInBounds i true).getD j false) (t := t) E' 0 σ0 with ⟨j, e, h1, h2, h3, h4, h5⟩ | ⟨h1, h2⟩
          · rw [h5] at hx
            have := hE'n j e h1 h3
            rw [this] at hx
            injection hx with hx
            exact hx.symm
          · exact absurd rfl (h1 i _ hE'i (by rw [Nat.zero_add, hget, if_pos rfl]))
        · right
          have hcongr : look (stD (fun j => (listed.setIfInBounds i true).getD j false) 0 E' σ0) t = look (stD (fun j => listed.getD j false) 0 E' σ0) t := by
            refine look_stD_congr fun j e he het => ?_
            rw [hget]
            by_cases hji : j = i
            · subst hji; rw [hE'i] at he; injection he with he; subst he; exact absurd het.symm htn
            · rw [if_neg hji]
          rw [← hEE, ← hcongr]; exact hx
      unfold wpOp
      rw [ho]
      simp only
      by_cases hie : i ∈ ph.rems
      · -- one that turns what is owned: it is one of the next
        have hih : i ∈ ph.heads := by
          unfold lvlOk at hlv
          rw [List.all_eq_true] at hlv
          obtain ⟨e, he, hb⟩ := List.any_eq_true.1 (hlv i hie)
          rw [Bool.or_eq_true] at hb
          rcases hb with hb | hb
          · rw [← Nat.eq_of_beq_eq_true hb]; exact he
          · have h0 := hrem e (heads_rems hph e he)
            rcases hanc e hb with h' | h'
            · rw [h'] at h0; cases h0
            · rw [← h']; exact he
        obtain ⟨nd, lv, rem, hW, hph, hset⟩ := hW.sel hph hih
        have hrem : ∀ e ∈ i :: rem.rems, listed.getD e false = false := fun e he => hrem e ((hset e).2 he)
        have hhere : True := trivial
        · skip
          have hpre : ∀ t, look (only (looks ops o) (stD (fun j => decide (j < i)) 0 E σ0) ++ stD (fun j => listed.getD j false) 0 E σ0) t = look (stD (fun j => listed.getD j false) 0 E σ0) t := by
            intro t
            refine look_prepend fun x hx => ?_
            rw [look_only] at hx
            cases hl : (looks ops o).any (Nat.beq t) with
            | false => rw [hl] at hx; simp at hx
            | true => rw [hl] at hx; rw [hlook t (any_beq.1 hl)]; exact hx
          simp only [subOk, Bool.and_eq_true] at hph
          obtain ⟨⟨⟨_, hlive⟩, hlv', hafter⟩, hph'⟩ := hph
          have hagr' : ∀ E' : List Ent, (∀ j, lv.getD j false = true → E'[j]? = E[j]?) → ∀ j, listed.getD j false = true → E'[j]? = E[j]? := by
            intro E' hagr j hj
            refine hagr j ?_
            have hjlt : j < ops.length := by
              false_or_by_contra
              rw [Array.getD_eq_getD_getElem?, Array.getElem?_eq_none (by omega)] at hj
              cases hj
            unfold liveOk at hlive
            rw [List.all_eq_true] at hlive
            have h1 := hlive j (List.mem_range.2 hjlt)
            rw [Bool.or_eq_true, Bool.not_eq_true'] at h1
            rcases h1 with h1 | h1
            · exfalso
              unfold mayRun at h1
              rw [Bool.not_eq_false', List.any_eq_true] at h1
              obtain ⟨e', he', hb⟩ := h1
              have h0 := hrem e' (by simpa using he')
              rw [Bool.or_eq_true] at hb
              rcases hb with hb | hb
              · have := Nat.eq_of_beq_eq_true hb
                subst this
                rw [hj] at h0; cases h0
              · rw [hancL j hj e' hb] at h0; cases h0
            · exact h1
          have hdone' : ∀ e' ∈ i :: done, (listed.setIfInBounds i true).getD e' false = true := by
            intro e' he'
            rw [hget]
            rcases List.mem_cons.1 he' with rfl | he'
            · rw [if_pos rfl]
            · split
              · rfl
              · exact hdone e' he'
          have hrem' : ∀ e' ∈ rem.rems, (listed.setIfInBounds i true).getD e' false = false := by
            intro e' he'
            rw [hget]
            have hne : e' ≠ i := by
              rintro rfl
              rw [Bool.not_eq_true'] at hafter
              have := any_beq.2 he'
              rw [hafter] at this; cases this
            rw [if_neg hne]
            exact hrem e' (by simp [he'])
          rcases hW.2 with ⟨oe, d2, ho2, hd2, hg2, hn2, hf2, hH⟩ | ⟨oe, ho2, hd2, hg2, hH⟩ | ⟨oe, d2, ch, ho2, hd2, hn2, hf2, hH⟩
          · rw [ho'] at ho2
            injection ho2 with ho2
            subst ho2
            have hdst : o.dst = some d := by
              rcases hdst0 with h | ⟨h, _⟩
              · exact h
              · rw [hd2] at h; cases h
            have hdd : d2 = d := by rw [hdst] at hd2; injection hd2 with hd2; exact hd2.symm
            subst hdd
            rw [if_pos (by simp [Region.wanted, hg2])]
            refine list_wp (ops := ops.toArray) hg2 fun Q' hQ' hX' => ?_
            refine hH _ a w ops.toArray Q' ⟨hk.own, hk.kn.of_look fun t x hx => by rw [hpre] at hx; exact hx⟩ (chFree_append (chFree_only hf2) (hfree hdst hf2)) ?_ hX'
            intro I' y' a' w' hN hk'
            obtain ⟨E', hagr, hE'i, hW'⟩ := hN
            refine hQ' a' w' ?_
            obtain ⟨hlE, hagr⟩ := agr_at hagr
            refine ih (i :: done) rem E' I' _ a' w' hlv' hph' (by simpa using hs) hcount' hclosed' hdone' hrem' hW' ⟨hk'.own, hk'.kn.of_look fun t x hx => ?_⟩
            have h1 := htell hdst E' [] y' hlE (hagr' E' hagr) hE'i t x hx
            simp only [look] at h1 ⊢
            cases hb : Nat.beq d2 t with
            | true => rw [hb] at h1; exact h1
            | false => rw [hb] at h1; simp only [cond_false] at h1 ⊢; rw [hpre]; exact h1
          · rw [ho'] at ho2
            injection ho2 with ho2
            subst ho2
            rw [if_pos (by simp [Region.wanted, hg2])]
            refine list_wp (ops := ops.toArray) hg2 fun Q' hQ' hX' => ?_
            refine hH _ a w ops.toArray Q' ⟨hk.own, hk.kn.of_look fun t x hx => by rw [hpre] at hx; exact hx⟩ ?_ hX'
            intro I' a' w' hN hk'
            obtain ⟨E', hagr, hE'i, hW'⟩ := hN
            refine hQ' a' w' ?_
            obtain ⟨hlE, hagr⟩ := agr_at hagr
            have hE'n : ∀ (j : Nat) (e : Ent), E'[j]? = some e → e.1 = n → e = (n, [], .lit undef) := by
              intro j e' he' hen
              have hHE' := hW'.hops
              obtain ⟨hl', hE'⟩ := hopsG_list hHE'
              have hj : j < ops.length := by rw [← hl']; exact (List.getElem?_eq_some_iff.1 he').1
              obtain ⟨e2, g1, g2, _, _⟩ := hE' j ops[j] (List.getElem?_eq_getElem hj)
              rw [g1] at he'
              injection he' with he'
              subst he'
              rcases g2 with g2 | g2
              · have := hdl j ops[j] e2.1 (List.getElem?_eq_getElem hj) g2
                omega
              · exact g2.2.1
            refine ih (i :: done) rem E' I' _ a' w' hlv' hph' (by simpa using hs) hcount' hclosed' hdone' hrem' hW' ⟨hk'.own, ⟨hk'.kn.defers, hk'.kn.size, fun t c' x' hx => ?_⟩⟩
            rcases htell0 E' hlE (hagr' E' hagr) hE'i hE'n t (c', x') hx with ⟨rfl, h⟩ | h
            · injection h with h1 h2
              subst h1; subst h2
              have hz : a'.tmps.getD t undef = undef := by
                rw [Array.getD_eq_getD_getElem?, Array.getElem?_eq_none (by rw [hk'.kn.size]; exact Nat.le_refl _)]; rfl
              rw [hz]
              exact ⟨fun _ => rep_lit rfl, fun _ => rfl⟩
            · exact hk'.kn.ent t c' x' (by rw [hpre]; exact h)
          · rw [ho'] at ho2
            injection ho2 with ho2
            subst ho2
            have hdst : o.dst = some d := by
              rcases hdst0 with h | ⟨h, _⟩
              · exact h
              · rw [hd2] at h; cases h
            have hdd : d2 = d := by rw [hdst] at hd2; injection hd2 with hd2; exact hd2.symm
            subst hdd
            refine list_wpG (ops := ops.toArray) fun Q' hQ' hX' => ?_
            refine hH _ a w Q' ⟨hk.own, hk.kn.of_look fun t x hx => by rw [hpre] at hx; exact hx⟩ (chFree_append (chFree_only hf2) (hfree hdst hf2)) ?_ hX'
            intro I' y' a' w' hN hk'
            obtain ⟨E', hagr, hE'i, hW'⟩ := hN
            refine hQ' a' w' ?_
            obtain ⟨hlE, hagr⟩ := agr_at hagr
            refine ih (i :: done) rem E' I' _ a' w' hlv' hph' (by simpa using hs) hcount' hclosed' hdone' hrem' hW' ⟨hk'.own, hk'.kn.of_look fun t x hx => ?_⟩
            have h1 := htell hdst E' ch y' hlE (hagr' E' hagr) hE'i t x hx
            simp only [look] at h1 ⊢
            cases hb : Nat.beq d2 t with
            | true => rw [hb] at h1; exact h1
            | false => rw [hb] at h1; simp only [cond_false] at h1 ⊢; rw [hpre]; exact h1
      · -- one that turns nothing
        have hop : Hop P ops M w0 Df n I (stD (fun j => decide (j < i)) 0 E σ0) o d c y := by
          refine hop0 ?_
          unfold maskOk at hmask
          rw [List.all_eq_true] at hmask
          have h1 := hmask i (List.mem_range.2 hilt)
          rw [Bool.or_eq_true] at h1
          rcases h1 with h1 | h1
          · exfalso
            rw [Bool.not_eq_true', Bool.and_eq_false_iff] at h1
            rcases h1 with h1 | h1
            · unfold mayRun at h1
              rw [Bool.not_eq_false', List.any_eq_true] at h1
              obtain ⟨e', he', hb⟩ := h1
              have h0 := hrem e' he'
              rw [Bool.or_eq_true] at hb
              rcases hb with hb | hb
              · have := Nat.eq_of_beq_eq_true hb
                subst this
                exact hie he'
              · rcases hanc e' hb with h | h
                · rw [h] at h0; cases h0
                · subst h; exact hie he'
            · rw [Bool.not_eq_false', List.any_eq_true] at h1
              obtain ⟨e', he', hb⟩ := h1
              have h0 := hdone e' he'
              rw [Bool.or_eq_true] at hb
              rcases hb with hb | hb
              · have := Nat.eq_of_beq_eq_true hb
                subst this
                rw [hiF] at h0; cases h0
              · have := hancL e' h0 i hb
                rw [hiF] at this; cases this
          · exact h1
        have hko : S M w0 a w n I (only (looks ops o) (stD (fun j => decide (j < i)) 0 E σ0)) Df := by
          refine ⟨hk.own, hk.kn.of_look fun t x hx => ?_⟩
          rw [look_only] at hx
          cases hl : (looks ops o).any (Nat.beq t) with
          | false => rw [hl] at hx; simp at hx
          | true => rw [hl] at hx; rw [hlook t (any_beq.1 hl)]; exact hx
        have hdst : o.dst = some d := hop.dst
        have hfree := hfree hdst hop.free
        have hnext : ∀ a' w', S M w0 a' w' n I ((d, c, y) :: stD (fun j => listed.getD j false) 0 E σ0) Df → wpAny P .any ops.toArray Q fuel (listed.setIfInBounds i true) a' w' := by
          intro a' w' hk'
          refine ih done ph E I _ a' w' hlv hph (by simpa using hs) hcount' hclosed' ?_ ?_ hW ⟨hk'.own, hk'.kn.of_look fun t x hx => htell hdst E c y rfl (fun _ _ => rfl) hEi t x hx⟩
          · intro e' he'
            rw [hget]
            split
            · rfl
            · exact hdone e' he'
          · intro e' he'
            rw [hget, if_neg (fun h : e' = i => hie (by rw [← h]; exact he'))]
            exact hrem e' he'
        have hexec : holds a c → Region.wanted o (yielded ops.toArray a.tmps) = true → (if Region.wanted o (yielded ops.toArray a.tmps) = true then o.wp P a w (wpAny P .any ops.toArray Q fuel (listed.setIfInBounds i true)) Q ∨ (o.asks P a w ∧ LetsOut Q) else wpAny P .any ops.toArray Q fuel (listed.setIfInBounds i true) (a.put o.dst undef) w) := by
          intro hh hw
          rw [if_pos hw]
          left
          refine (hop.f a w hko hh).wp hk.own fun v w' hnw hv => ?_
          rw [hop.dst]
          have hk' := hk.fresh hnw
          exact hnext _ _ ⟨hk'.own, hk'.kn.put hop.lt hfree hop.cfree (fun _ => hv) (fun h' => absurd hh h')⟩
        rcases hop.chain with ⟨hg, rfl⟩ | ⟨j, want, g, b, c0, hg, hj, hgn, hl, rfl⟩
        · exact hexec (holds_nil a) (by simp [Region.wanted, hg])
        · have hgl : g ∈ looks ops o := by
            have := hop.cl
            rw [List.all_eq_true] at this
            exact any_beq.1 (this (g, want) List.mem_cons_self)
          have hl' : look (stD (fun j => listed.getD j false) 0 E σ0) g = some (c0, .lit (.bool b)) := by rw [hlook g hgl]; exact hl
          obtain ⟨hw1, hw2⟩ := wanted_iff (ops := ops.toArray) hk.kn hg (by simpa using hj) hgn hl'
          by_cases hh : holds a ((g, want) :: c0)
          · exact hexec hh (hw1.2 hh)
          · rw [if_neg (by rw [hw2 hh]; simp), hop.dst]
            exact hnext _ _ ⟨hk.own, hk.kn.put hop.lt hfree hop.cfree (fun h' => absurd h' hh) (fun _ => rfl)⟩
theorem wdrawE1 {id : Nat} {ops : List Oper} {a : Act} {w : World} {σ : St} (ph : Pt) (E : List Ent) (hm : P.follows .mixedOrders = true) (hord : ordOk ops = true) (hslots : slotsOk n ops = true) (hph : ptOk ops (ancs ops) ph = true) (hk : S M w0 a w n I σ Df)
    (h : PhT P ops M w0 Df Q n (fun I' σ' => ∀ a w, S M w0 a w n I' σ' Df → Q .normal a w) σ ph E I) : (Code.region id ops.toArray true).wp P Q a w := by
  refine wp_region_any hm ?_
  have hw : New w { w with drawn := w.drawn + 1 } := ⟨rfl, rfl, rfl, Nat.le_refl _, fun _ _ _ => rfl⟩
  unfold ptOk at hph
  rw [Bool.and_eq_true] at hph
  refine wpAny_eff hord hslots (fun I σ a w hK hk => hK a w hk) _ [] ph E I _ a _ hph.1 hph.2 (by simp) (by simp) ?_ (by simp) ?_ h ?_
  · intro j o _ hD
    rw [getD_repl] at hD; cases hD
  · intro e _; exact getD_repl _ _
  · have : stD (fun j => (Array.replicate ops.toArray.size false).getD j false) 0 E σ = σ := by
      rw [stD_congr E 0 σ (D' := fun _ => false) fun j _ => getD_repl _ _]
      exact stD_false _ _ _
    rw [this]
    exact hk.fresh hw
theorem wdrawE {id : Nat} {ops : List Oper} {y : Code} {a : Act} {w : World} {σ : St} (ph : Pt) (E : List Ent) (hm : P.follows .mixedOrders = true) (hord : ordOk ops = true) (hslots : slotsOk n ops = true) (hph : ptOk ops (ancs ops) ph = true) (hk : S M w0 a w n I σ Df)
    (h : PhT P ops M w0 Df (Exit.then (y.wp P Q) Q) n (fun I' σ' => ∀ a w, S M w0 a w n I' σ' Df → y.wp P Q a w) σ ph E I) : (Code.seq (.region id ops.toArray true) y).wp P Q a w :=
  wp_seq (wdrawE1 ph E hm hord hslots hph hk h)
theorem gskip {ops rest : List Oper} {o : Oper} {σ : St} {ms : List Bool} {E : List Ent} {d : Nat} {c : Ch} {y : AV} (hd : o.dst = some d) (hcl : (c.all fun p => (looks ops o).any (Nat.beq p.1)) = true) (h' : hopsG P ops M w0 Df n I ms rest E ((d, c, y) :: σ)) : hopsG P ops M w0 Df n I (false :: ms) (o :: rest) ((d, c, y) :: E) σ :=
  ⟨⟨.inl hd, hcl, fun h => nomatch h⟩, h'⟩
theorem gskip0 {ops rest : List Oper} {o : Oper} {σ : St} {ms : List Bool} {E : List Ent} (hd : o.dst = none) (h' : hopsG P ops M w0 Df n I ms rest E ((n, [], .lit undef) :: σ)) : hopsG P ops M w0 Df n I (false :: ms) (o :: rest) ((n, [], .lit undef) :: E) σ :=
  ⟨⟨.inr ⟨hd, rfl, rfl⟩, rfl, fun h => nomatch h⟩, h'⟩
theorem gfun {ops rest : List Oper} {o : Oper} {σ : St} {ms : List Bool} {E : List Ent} {d : Nat} {y : AV} (hd : o.dst = some d) (hn : Nat.blt d n = true) (hf : chFree σ d = true) (hg : o.guard = none)
    (hF : ∀ a w, S M w0 a w n I (only (looks ops o) σ) Df → Fun P (okM M I) o a w y) (h' : hopsG P ops M w0 Df n I ms rest E ((d, [], y) :: σ)) : hopsG P ops M w0 Df n I (true :: ms) (o :: rest) ((d, [], y) :: E) σ :=
  ⟨⟨.inl hd, rfl, fun _ => ⟨hd, hn, hf, rfl, .inl ⟨hg, rfl⟩, rfl, fun a w hk _ => hF a w hk⟩⟩, h'⟩
theorem gend {ops : List Oper} {σ : St} : hopsG P ops M w0 Df n I [] [] [] σ := trivial
theorem gnext {ops : List Oper} {K : List It → St → Prop} {σ0 : St} {nd lv : List Bool} {e : Nat} {rem : Pt} {E : List Ent} {oe : Oper} {d : Nat} (h : hopsG P ops M w0 Df n I nd ops E σ0) (ho : ops[e]? = some oe) (hd : oe.dst = some d) (hg : oe.guard = none) (hn : Nat.blt d n = true) (hf : chFree (stD (fun i => decide (i < e)) 0 E σ0) d = true)
    (hH : Heff P M w0 Df Q0 n oe (only (looks ops oe) (stD (fun i => decide (i < e)) 0 E σ0)) I d fun I' y => ∃ E', agr lv E E' ∧ E'[e]? = some (d, [], y) ∧ PhT P ops M w0 Df Q0 n K σ0 rem E' I') : PhT P ops M w0 Df Q0 n K σ0 (.next nd e lv rem) E I :=
  ⟨h, .inl ⟨oe, d, ho, hd, hg, hn, hf, hH⟩⟩
theorem gnext0 {ops : List Oper} {K : List It → St → Prop} {σ0 : St} {nd lv : List Bool} {e : Nat} {rem : Pt} {E : List Ent} {oe : Oper} (h : hopsG P ops M w0 Df n I nd ops E σ0) (ho : ops[e]? = some oe) (hd : oe.dst = none) (hg : oe.guard = none)
    (hH : Heff0 P M w0 Df Q0 n oe (only (looks ops oe) (stD (fun i => decide (i < e)) 0 E σ0)) I fun I' => ∃ E', agr lv E E' ∧ E'[e]? = some (n, [], .lit undef) ∧ PhT P ops M w0 Df Q0 n K σ0 rem E' I') : PhT P ops M w0 Df Q0 n K σ0 (.next nd e lv rem) E I :=
  ⟨h, .inr (.inl ⟨oe, ho, hd, hg, hH⟩)⟩
theorem glast {ops : List Oper} {K : List It → St → Prop} {σ0 : St} {need : List Bool} {E : List Ent} (h : hopsG P ops M w0 Df n I need ops E σ0) (hK : K I (stD (fun _ => true) 0 E σ0)) : PhT P ops M w0 Df Q0 n K σ0 (.leaf need) E I := ⟨h, hK⟩
end
end Go.Proofs.YtfbkgaandmebaaaGreat.FW
namespace Go.Proofs.YtfbkgaandmebaaaGreat.FW
variable {Df : List Deferred}
open Go.RowKit
set_option linter.unusedVariables false
set_option linter.unusedSectionVars false
section
variable {P : Program} {M : Nat → Prop} {w0 : Bs} {w : World} {a : Act} {n : Nat} {I I' : List It} {σ : St} {c : Ch} {dst : Option Tmp} {ty : TypeId} {pos : String} {aft : Array Edge} {g : Option (Nat × Bool)} {x y z : Operand} {u : AV} {ops : Array Oper} {Q : Exit → Act → World → Prop} {rest : List Oper} {d j : Nat}
  {α : Type} {f : α → List AV} {l : List α} {ad : Option Addr} {cap : Nat} {e t t' : TypeId} {sz : Nat}
theorem range_mod {β : Type} [Inhabited β] (zc : List β) (sz : Nat) (h : zc.length = sz) (hp : 0 < sz) : ∀ m : Nat, (List.range (m * sz)).map (fun i => zc[i % sz]!) = (List.replicate m zc).flatten
  | 0 => by simp
  | m + 1 => by
    rw [Nat.succ_mul, List.range_add, List.map_append, range_mod zc sz h hp m, List.replicate_succ', List.flatten_append, List.flatten_singleton, List.map_map]
    congr 1
    apply List.ext_getElem
    · simp [h]
    · intro i h1 h2
      simp only [List.getElem_map, List.getElem_range, Function.comp]
      rw [Nat.mul_comm m sz, Nat.mul_add_mod, Nat.mod_eq_of_lt (by omega), getElem!_pos zc i h2]
theorem madeCells_flat (zc : Array Value) (m : Nat) (hp : 0 < zc.size) : (madeCells zc (m * zc.size)).toList = (List.replicate m zc.toList).flatten := by
  unfold madeCells
  rw [Array.toList_map, Array.toList_range, ← range_mod zc.toList zc.size (by simp) hp m]
  simp
  intro a _
  rw [getElem!_def]
  cases zc[a % zc.size]? <;> rfl
theorem repL_rep {ok : Nat → Prop} {cs : List AV} {vs : List Value} (h : RepL ok w cs vs) : ∀ m : Nat, RepL ok w (List.replicate m cs).flatten (List.replicate m vs).flatten
  | 0 => by simpa using repL_nil
  | m + 1 => by
    simp only [List.replicate_succ, List.flatten_cons]
    exact h.append (repL_rep h m)
theorem l_makeSliceN {k : Int} {z : α} {zv : Value} (hp : 0 < sz) (hsz : ∀ x, (f x).length = sz) (hk : S M w0 a w n I σ Df) (hn : Nat.blt d n = true) (hf : chFree σ d = true) (hx : opvc σ [] x = some (.lit (.int .i64 k))) (hy : opvc σ [] y = some (.lit (.int .i64 k))) (ht : P.underlying t = some (.slice e))
    (hi : (P.info? e).map (fun i => (i.size, i.zero)) = some (sz, some zv)) (hz : ∀ (ok : Nat → Prop) (w : World), RepL ok w (f z) zv.cells.toList) (hb : ((P.info? e).map fun i => decide (i.bytes ≤ 256)) = some true) (hc : 0 ≤ k ∧ k ≤ 1000000000000)
    (h : ∀ b a' w', S M w0 a' w' n (orow (some ⟨b, 0, none⟩) k.toNat e sz f (List.replicate k.toNat z) :: I) ((d, [], .lit (.slice (some ⟨b, 0, none⟩) (List.length (List.replicate k.toNat z)) k.toNat)) :: σ) Df → wpList P ops Q rest a' w') :
    wpList P ops Q (⟨some d, .makeSlice t x y, ty, pos, aft, none⟩ :: rest) a w := by
  obtain ⟨inf, hinf, hi'⟩ := Option.map_eq_some_iff.1 hi
  injection hi' with hs hz0
  obtain ⟨inf2, hinf2, hb'⟩ := Option.map_eq_some_iff.1 hb
  rw [hinf] at hinf2; injection hinf2 with e1; subst e1
  have hb2 : inf.bytes ≤ 256 := by simpa using hb'
  obtain ⟨m, rfl⟩ := Int.eq_ofNat_of_zero_le hc.1
  have hm : m ≤ 1000000000000 := by omega
  have hbm : inf.bytes * m ≤ 281474976710656 := by
    have := Nat.mul_le_mul hb2 hm
    omega
  obtain ⟨w', hr, hrow, hg⟩ := run_make_full (P := P) w 0 t e inf zv sz ht hinf hz0 hs .i64 .i64 m hbm (by unfold maxLen; omega) (Nat.zero_le _)
  have hr' : (execOp a.eval ⟨some d, .makeSlice t x y, ty, pos, aft, none⟩).run P w = .ok (.value (.slice (some ⟨w.heap.size, 0, none⟩) m m)) w' := by
    simp only [execOp, hk.kn.val (holds_nil a) hx, hk.kn.val (holds_nil a) hy, Sem.run_bind, hr, Result.andThen_ok, Sem.run_pure]
  have hlen : (List.replicate m z).length = m := by simp
  have hfoot : ∀ k, (orow (some ⟨w.heap.size, 0, none⟩) m e sz f (List.replicate m z)).foot k → w.heap.size ≤ k ∧ k < w'.heap.size := by
    intro k hk'
    have hk0 : Value.ownBlock (.slice (some ⟨w.heap.size, 0, none⟩) (List.replicate m z).length m) = some k := hk'
    simp only [Value.ownBlock, Option.some.injEq] at hk0
    subst hk0
    rcases hrow.2 with ⟨hv, _⟩ | ⟨g, cap, cur, hv, _, hh, _⟩
    · cases hv
    · injection hv with h3
      injection h3 with h3
      injection h3 with h3
      subst h3
      exact ⟨Nat.le_refl _, heap_lt hh⟩
  have hnew : New w w' := by
    have h1 := Frm.of_grown hg
    exact h1.mono fun k hk' => by cases hk'
  have hzl : zv.cells.size = sz := by
    have := (hz (fun _ => False) w).length
    rw [hsz] at this
    simpa using this
  refine leff hk rfl rfl hn hf hr' ?_ (by rw [Int.toNat_natCast, hlen]; exact rep_lit rfl) (fun a' hk' => h w.heap.size a' _ hk')
  refine hk.push hnew ?_ hfoot
  refine ⟨hsz, _, by simpa using hrow, ?_⟩
  rw [← hzl, madeCells_flat zv.cells m (by omega), Int.toNat_natCast, List.map_replicate]
  exact repL_rep (hz _ _) m
end
end Go.Proofs.YtfbkgaandmebaaaGreat.FW
namespace Go.Proofs.YtfbkgaandmebaaaGreat.FW
variable {Df : List Deferred}
open Go.RowKit
set_option linter.unusedVariables false
set_option linter.unusedSectionVars false
section
variable {P : Program} {M : Nat → Prop} {w0 : Bs} {w w' : World} {a : Act} {n : Nat} {I I' : List It} {σ : St} {it : It} {j : Nat}
variable {c : Ch} {dst : Option Tmp} {ty : TypeId} {pos : String} {aft : Array Edge} {ops : Array Oper} {Q : Exit → Act → World → Prop} {rest : List Oper} {d : Nat} {g : Option (Nat × Bool)} {x y y0 y1 y2 : Operand}
variable {α : Type} [Inhabited α] {f : α → List AV} {l : List α} {ad : Option Addr} {cap b cp : Nat} {e t : TypeId} {sz : Nat}
theorem f_sl3 (hk : S M w0 a w n I σ Df) (hc : holds a c) (hx : opvc σ c x = some (.lit (.slice ad 1 cp))) (h0 : opvc σ c y0 = some (.lit (.int .i64 0))) (h1 : opvc σ c y1 = some (.lit (.int .i64 1))) (h2 : opvc σ c y2 = some (.lit (.int .i64 1))) (hcp : 1 ≤ cp) (hu : P.underlying t = some (.slice e)) (hs : (P.info? e).map (·.size) = some sz) :
    Fun P (okM M I) ⟨dst, .slice t x (some y0) (some y1) (some y2), ty, pos, aft, g⟩ a w (.lit (.slice (ad.map (·.add 0)) 1 1)) := by
  obtain ⟨inf, hinf, hs'⟩ := Option.map_eq_some_iff.1 hs
  refine .inl ⟨_, w, ?_, New.refl w, rep_lit rfl⟩
  have hcp' : (1 : Int) ≤ (cp : Int) := by omega
  simp [execOp, hk.kn.val hc hx, hk.kn.val hc h0, hk.kn.val hc h1, hk.kn.val hc h2, Instr.sliceAt, Instr.slice, Instr.sliceBounds, Instr.sliceBound, asIntOf, run_underlying hu, sizeOf, typeInfo, hinf, hcp']
theorem f_slTo (hk : S M w0 a w n I σ Df) (hc : holds a c) (hx : opvc σ c x = some (.lit (.slice (some ⟨b, 0, none⟩) 1 cp))) (h0 : opvc σ c y0 = some (.lit (.int .i64 0))) (hu : P.underlying t = some (.slice e)) (hs : (P.info? e).map (·.size) = some sz) :
    Fun P (okM M I) ⟨dst, .slice t x none (some y0) none, ty, pos, aft, g⟩ a w (.lit (.slice (some ⟨b, 0, none⟩) 0 cp)) := by
  obtain ⟨inf, hinf, hs'⟩ := Option.map_eq_some_iff.1 hs
  refine .inl ⟨_, w, ?_, New.refl w, rep_lit rfl⟩
  simp [execOp, hk.kn.val hc hx, hk.kn.val hc h0, Instr.sliceAt, Instr.slice, Instr.sliceBounds, Instr.sliceBound, asIntOf, run_underlying hu, sizeOf, typeInfo, hinf, add_addr]
theorem f_slFrom (hk : S M w0 a w n I σ Df) (hc : holds a c) (hx : opvc σ c x = some (.lit (.slice ad 1 cp))) (h0 : opvc σ c y0 = some (.lit (.int .i64 1))) (hu : P.underlying t = some (.slice e)) (hs : (P.info? e).map (·.size) = some sz) :
    Fun P (okM M I) ⟨dst, .slice t x (some y0) none none, ty, pos, aft, g⟩ a w (.lit (.slice (if cp = 1 then ad else ad.map (·.add (1 * sz))) 0 (cp - 1))) := by
  obtain ⟨inf, hinf, hs'⟩ := Option.map_eq_some_iff.1 hs
  refine .inl ⟨_, w, ?_, New.refl w, rep_lit rfl⟩
  simp [execOp, hk.kn.val hc hx, hk.kn.val hc h0, Instr.sliceAt, Instr.slice, Instr.sliceBounds, Instr.sliceBound, asIntOf, run_underlying hu, sizeOf, typeInfo, hinf, hs']
theorem f_slPart (hk : S M w0 a w n I σ Df) (hc : holds a c) (hx : opvc σ c x = some (.lit (.slice (some ⟨b, 0, none⟩) 0 cp))) (h0 : opvc σ c y0 = some (.lit (.int .i64 0))) (h1 : opvc σ c y1 = some (.lit (.int .i64 1))) (hcp : 1 ≤ cp) (hu : P.underlying t = some (.slice e)) (hs : (P.info? e).map (·.size) = some sz) :
    Fun P (okM M I) ⟨dst, .slice t x (some y0) (some y1) none, ty, pos, aft, g⟩ a w (.lit (.slice (some ⟨b, 0, none⟩) 1 cp)) := by
  obtain ⟨inf, hinf, hs'⟩ := Option.map_eq_some_iff.1 hs
  refine .inl ⟨_, w, ?_, New.refl w, rep_lit rfl⟩
  have hcp' : (1 : Int) ≤ (cp : Int) := by omega
  simp [execOp, hk.kn.val hc hx, hk.kn.val hc h0, hk.kn.val hc h1, Instr.sliceAt, Instr.slice, Instr.sliceBounds, Instr.sliceBound, asIntOf, run_underlying hu, sizeOf, typeInfo, hinf, hcp', add_addr]
theorem f_append0 {A : Option Addr} {q : Nat} (hk : S M w0 a w n I σ Df) (hc : holds a c) (hx : opvc σ c x = some (.lit (.slice (some ⟨b, 0, none⟩) 0 cp))) (hy : opvc σ c y = some (.lit (.slice A 0 q))) (hu : P.underlying t = some (.slice e)) (hs : (P.info? e).map (·.size) = some sz) :
    Fun P (okM M I) ⟨dst, .call { callee := .builtin .append, args := #[x, y], argTypes := #[t, t] }, ty, pos, aft, g⟩ a w (.lit (.slice (some ⟨b, 0, none⟩) 0 cp)) := by
  obtain ⟨inf, hinf, hs'⟩ := Option.map_eq_some_iff.1 hs
  refine .inl ⟨.slice (some ⟨b, 0, none⟩) 0 cp, w, ?_, New.refl w, rep_lit rfl⟩
  simp [execOp, resolve, invoke, builtin, hk.kn.val hc hx, hk.kn.val hc hy, Builtin.append_, run_underlying hu, sizeOf, typeInfo, hinf, Builtin.lenOf, Builtin.firstCells]
  cases A <;> simp [loadCells, loadCellsFrom, storeCells]
theorem zeroCells_one (z : Array Value) : (Builtin.zeroCells z 1).toList = z.toList := by
  unfold Builtin.zeroCells
  apply List.ext_getElem?
  intro i
  by_cases h : i < z.size
  · simp [h, Nat.mod_eq_of_lt h]
  · rw [List.getElem?_eq_none (by simp; omega), List.getElem?_eq_none (by simp; omega)]
theorem l_clearOne {x0 : α} {z : Value} {I' : List It} (hk : S M w0 a w n I σ Df) (hj : I[j]? = some (orow (some ⟨b, 0, none⟩) cap e sz f [x0])) (hx : opvc σ [] x = some (.lit (.slice (some ⟨b, 0, none⟩) 1 cap))) (hu : P.underlying t = some (.slice e)) (hz : (P.info? e).bind (·.zero) = some z) (hzl : z.cells.size = sz) (hone : z.cells.toList.all Value.oneCell' = true)
    (hI : I.set j (orow (some ⟨b, 0, none⟩) cap e sz f ([] : List α)) = I') (h : ∀ w', S M w0 a w' n I' σ Df → wpList P ops Q rest a w') :
    wpList P ops Q (⟨none, .call { callee := .builtin .clear, args := #[x], argTypes := #[t] }, ty, pos, aft, none⟩ :: rest) a w := by
  obtain ⟨hsz, vals, hown, hL⟩ := hk.own.get hj
  obtain ⟨inf, hi, hz'⟩ := Option.bind_eq_some_iff.1 hz
  rcases hown.2 with ⟨hv, hn⟩ | ⟨gb, cp, cur, hv, hb0, hh, hle, hcm, hcs, htk⟩
  · cases hv
  · injection hv with h3 h4 h5
    injection h3 with h3
    injection h3 with h3
    subst h3; subst h5
    simp only [List.length_cons, List.length_nil, Nat.zero_add] at hle
    have hle2 : 1 * sz ≤ cap * sz := Nat.mul_le_mul_right sz hle
    have hst := run_storeCells_at (P := P) b 0 e z.cells.toList 0 cur w hh (by simp; omega) (fun v hv => List.all_eq_true.1 hone v hv)
    simp only [Nat.add_zero, Nat.zero_add, List.take_zero, List.nil_append] at hst
    have hr' : (execOp a.eval ⟨none, .call { callee := .builtin .clear, args := #[x], argTypes := #[t] }, ty, pos, aft, none⟩).run P w = .ok (.value (.tuple #[])) (w.setRow b (z.cells.toList ++ cur.toList.drop z.cells.toList.length).toArray) := by
      have hst2 : (storeCells ⟨b, 0, none⟩ z.cells.toList).run P w = .ok () (w.setRow b (z.cells.toList ++ cur.toList.drop z.cells.toList.length).toArray) := by simpa using hst
      simp [execOp, resolve, invoke, builtin, hk.kn.val (holds_nil a) hx, Builtin.clear_, run_underlying hu, zeroValue, typeInfo, hi, hz', zeroCells_one]
      simp [hst2]
    subst hI
    refine lval hk rfl rfl hr' ?_ (fun hk' => h _ hk')
    have hfrm : Frm (orow (some ⟨b, 0, none⟩) cap e sz f [x0]).foot w (w.setRow b (z.cells.toList ++ cur.toList.drop z.cells.toList.length).toArray) := (Frm.setRow w b _).mono fun k hk' => by subst hk'; rfl
    refine hk.upd hj hfrm ⟨hsz, [], ⟨by simp, .inr ⟨b, cap, _, by simp, hb0, setRow_heap w b cur _ e (0, 0) hh, Nat.zero_le _, hcm, ?_, by simp⟩⟩, by simpa using repL_nil⟩ fun k hk' => ?_
    · simp; omega
    · have hk0 : Value.ownBlock (.slice (some ⟨b, 0, none⟩) ([] : List α).length cap) = some k := hk'
      simp only [Value.ownBlock, Option.some.injEq] at hk0
      subst hk0
      have hf : (orow (some ⟨b, 0, none⟩) cap e sz f [x0]).foot b := rfl
      exact ⟨.inl hf, by have := (hk.own.lt hj hf).2; simpa [World.setRow] using this⟩
end
end Go.Proofs.YtfbkgaandmebaaaGreat.FW
namespace Go.Proofs.YtfbkgaandmebaaaGreat
open Go.RowKit
set_option linter.unusedVariables false
set_option maxRecDepth 20000
set_option maxHeartbeats 10000000
theorem fallsClone.ok (l : List ApiFall) (hl : (0 + l.length) * 24 ≤ 140737488355328 ∧ 0 + l.length ≤ 140737488355328) :
    FW.OkH Go.Proofs.Tryz.prog 43 [.row (r_ApiFall_cells l)] [] (fun y I => ∃ (ad : Option Addr) (cap : Nat), y = .lit (.slice ad (List.length l) cap) ∧ I = [FW.orow ad cap 52 3 ApiFall.cells l]) := by
  refine FW.enterH (xs := [.row (r_ApiFall_cells l)]) Go.Proofs.Tryz.func43 rfl Go.Proofs.Tryz.ntmps43 rfl ?_
  intro M w0 a hk
  refine FW.wreg ?_; intro K' hK1
  refine FW.lfun (y := .lit (.slice none 0 0)) hk rfl rfl rfl rfl (FW.f_assign hk (FW.holds_nil _) rfl) ?_; clear hk; intro a w hk
  refine FW.lend (hK1 _ _ ?_); clear hK1 K'
  refine FW.wseq ?_; intro K' hK2
  refine FW.wreg ?_; intro K' hK3
  refine FW.lfun (y := .row (r_ApiFall_cells l)) hk rfl rfl rfl rfl (FW.f_move hk (FW.holds_nil _) rfl) ?_; clear hk; intro a w hk
  obtain ⟨ad, cp, had, hk⟩ := FW.S.asSlice (i := 3) r_ApiFall_cells_eq hk rfl
  refine FW.lfun (y := .lit (.bool ad.isNone)) hk rfl rfl rfl rfl (FW.f_eqSliceNil hk (FW.holds_nil _) rfl rfl Go.Proofs.Tryz.underlying50) ?_; clear hk; intro a w hk
  refine FW.lend (hK3 _ _ ?_); clear hK3 K'
  refine FW.wcond (b := ad.isNone) hk rfl (fun hb => ?_) (fun hb => ?_)
  · have hl0 : l = [] := had (Option.isNone_iff_eq_none.1 hb)
    subst hl0
    refine FW.wreg ?_; intro K' hK4
    refine FW.lfun (y := .lit (.slice none 0 0)) hk rfl rfl rfl rfl (FW.f_assign hk (FW.holds_nil _) rfl) ?_; clear hk; intro a w hk
    refine FW.lend (hK4 _ _ ?_); clear hK4 K'
    refine wp_ret ?_
    (repeat first | refine FW.then_ret ?_ | refine FW.block_ret ?_)
    replace hk := hk.nilRow 52 3 ApiFall.cells (fun _ => rfl)
    exact FW.fretH1 hk rfl (FW.rtmp hk rfl) ⟨none, 0, rfl, rfl⟩
  · refine wp_skip ?_
    (repeat first | refine FW.then_normal ?_ | refine FW.block_normal ?_); refine hK2 _ _ ?_
    clear hK2 K'
    refine FW.wreg ?_; intro K' hK4
    refine FW.l_buildSlice0 (f := ApiFall.cells) hk rfl rfl Go.Proofs.Tryz.underlying50 rfl (fun _ => rfl) ?_; clear hk; intro b1 a w hk
    refine FW.lfun (y := .row (r_ApiFall_cells l)) hk rfl rfl rfl rfl (FW.f_move hk (FW.holds_nil _) rfl) ?_; clear hk; intro a w hk
    refine FW.l_append (l2 := l) (l3 := (([] : List ApiFall) ++ l)) (I' := fun ad1 cap1 => [FW.orow ad1 cap1 52 3 ApiFall.cells (([] : List ApiFall) ++ l)]) (j := 0) hk rfl rfl rfl rfl (FW.imm_src (sz := 3) hk r_ApiFall_cells_eq rfl (fun _ => rfl) (fun _ => rfl) Go.Proofs.Tryz.underlying50) Go.Proofs.Tryz.underlying50 (by kernel_rfl) hl rfl (fun _ _ => rfl) ?_; clear hk; intro ad1 cap1 a w hk
    refine FW.lfun (y := .lit (.slice ad1 (List.length (([] : List ApiFall) ++ l)) cap1)) hk rfl rfl rfl rfl (FW.f_assign hk (FW.holds_nil _) rfl) ?_; clear hk; intro a w hk
    refine FW.lend (hK4 _ _ ?_); clear hK4 K'
    refine wp_ret ?_
    (repeat first | refine FW.then_ret ?_ | refine FW.block_ret ?_)
    exact FW.fretH1 hk rfl (FW.rtmp hk rfl) ⟨ad1, cap1, rfl, rfl⟩
theorem fallsDelete.ok (x0 : ApiFall) (xd : Option Addr) (xc : Nat) :
    FW.OkH Go.Proofs.Tryz.prog 100 [.lit (.slice xd 1 xc), .lit (.int .i64 0), .lit (.int .i64 1)] [FW.orow xd xc 52 3 ApiFall.cells [x0]] (fun y I => y = .lit (.slice xd 0 xc) ∧ I = [FW.orow xd xc 52 3 ApiFall.cells []]) := by
  refine FW.enterH (xs := [.lit (.slice xd 1 xc), .lit (.int .i64 0), .lit (.int .i64 1)]) Go.Proofs.Tryz.func100 rfl Go.Proofs.Tryz.ntmps100 rfl ?_
  intro M w0 a hk
  obtain ⟨b, rfl, hcp⟩ : ∃ b, xd = some ⟨b, 0, none⟩ ∧ 1 ≤ xc := by
    obtain ⟨_, vals, hown, _⟩ := hk.own.get (j := 0) rfl
    rcases hown.2 with ⟨hv, _⟩ | ⟨gb, cp, cur, hv, _, _, hle, _⟩
    · cases hv
    · injection hv with h3 _ h5
      subst h5
      exact ⟨gb, h3, by simpa using hle⟩
  refine FW.wreg ?_; intro K' hK1
  refine FW.lfun (y := .lit (.slice none 0 0)) hk rfl rfl rfl rfl (FW.f_assign hk (FW.holds_nil _) rfl) ?_; clear hk; intro a w hk
  refine FW.lend (hK1 _ _ ?_); clear hK1 K'
  refine FW.wreg ?_; intro K' hK2
  refine FW.lfun (y := .lit (.slice (some ⟨b, 0, none⟩) 1 xc)) hk rfl rfl rfl rfl (FW.f_move hk (FW.holds_nil _) rfl) ?_; clear hk; intro a w hk
  refine FW.lfun (y := .lit (.int .i64 0)) hk rfl rfl rfl rfl (FW.f_move hk (FW.holds_nil _) rfl) ?_; clear hk; intro a w hk
  refine FW.lfun (y := .lit (.int .i64 1)) hk rfl rfl rfl rfl (FW.f_move hk (FW.holds_nil _) rfl) ?_; clear hk; intro a w hk
  refine FW.lfun (y := .lit (.slice (some ⟨b, 0, none⟩) 1 xc)) hk rfl rfl rfl rfl (FW.f_move hk (FW.holds_nil _) rfl) ?_; clear hk; intro a w hk
  refine FW.lfun (y := .lit (.int .i64 1)) hk rfl rfl rfl rfl (FW.f_pure (FW.p_len Go.Proofs.Tryz.underlying50 hk.kn (FW.holds_nil _) rfl)) ?_; clear hk; intro a w hk
  refine FW.lfun (y := .lit (.slice ((some ⟨b, 0, none⟩ : Option Addr).map (·.add 0)) 1 1)) hk rfl rfl rfl rfl (FW.f_sl3 (sz := 3) hk (FW.holds_nil _) rfl rfl rfl rfl hcp Go.Proofs.Tryz.underlying50 (by kernel_rfl)) ?_; clear hk; intro a w hk
  refine FW.lend (hK2 _ _ ?_); clear hK2 K'
  refine FW.wseq ?_; intro K' hK3
  refine FW.wreg ?_; intro K' hK4
  refine FW.lfun (y := .lit (.int .i64 0)) hk rfl rfl rfl rfl (FW.f_move hk (FW.holds_nil _) rfl) ?_; clear hk; intro a w hk
  refine FW.lfun (y := .lit (.int .i64 1)) hk rfl rfl rfl rfl (FW.f_move hk (FW.holds_nil _) rfl) ?_; clear hk; intro a w hk
  refine FW.lfun (y := .lit (.bool false)) hk rfl rfl rfl rfl ((FW.f_pure (FW.p_eql (p := 0) (q := 1) hk.kn (FW.holds_nil _) rfl rfl))) ?_; clear hk; intro a w hk
  refine FW.lend (hK4 _ _ ?_); clear hK4 K'
  refine FW.wcondX hk rfl ?_
  refine wp_skip ?_
  (repeat first | refine FW.then_normal ?_ | refine FW.block_normal ?_); refine hK3 _ _ ?_; clear hK3 K'
  refine FW.wreg ?_; intro K' hK5
  refine FW.lfun (y := .lit (.slice (some ⟨b, 0, none⟩) 1 xc)) hk rfl rfl rfl rfl (FW.f_move hk (FW.holds_nil _) rfl) ?_; clear hk; intro a w hk
  refine FW.lfun (y := .lit (.int .i64 1)) hk rfl rfl rfl rfl (FW.f_pure (FW.p_len Go.Proofs.Tryz.underlying50 hk.kn (FW.holds_nil _) rfl)) ?_; clear hk; intro a w hk
  refine FW.lfun (y := .lit (.int .i64 1)) hk rfl rfl rfl rfl (FW.f_assign hk (FW.holds_nil _) rfl) ?_; clear hk; intro a w hk
  refine FW.lend (hK5 _ _ ?_); clear hK5 K'
  refine FW.wdraw (by kernel_rfl) (by kernel_rfl) hk ?_; clear hk
  refine FW.dfun (y := .lit (.slice (some ⟨b, 0, none⟩) 1 xc)) rfl rfl rfl rfl (fun a w hk => FW.f_move hk (FW.holds_nil _) rfl) ?_
  refine FW.dfun (y := .lit (.int .i64 0)) rfl rfl rfl rfl (fun a w hk => FW.f_move hk (FW.holds_nil _) rfl) ?_
  refine FW.dfun (y := .lit (.slice (some ⟨b, 0, none⟩) 0 xc)) rfl rfl rfl rfl (fun a w hk => FW.f_slTo (sz := 3) hk (FW.holds_nil _) rfl rfl Go.Proofs.Tryz.underlying50 (by kernel_rfl)) ?_
  refine FW.dfun (y := .lit (.slice (some ⟨b, 0, none⟩) 1 xc)) rfl rfl rfl rfl (fun a w hk => FW.f_move hk (FW.holds_nil _) rfl) ?_
  refine FW.dfun (y := .lit (.int .i64 1)) rfl rfl rfl rfl (fun a w hk => FW.f_move hk (FW.holds_nil _) rfl) ?_
  refine FW.dfun (y := .lit (.slice (if xc = 1 then some ⟨b, 0, none⟩ else (some ⟨b, 0, none⟩ : Option Addr).map (·.add (1 * 3))) 0 (xc - 1))) rfl rfl rfl rfl (fun a w hk => FW.f_slFrom (sz := 3) hk (FW.holds_nil _) rfl rfl Go.Proofs.Tryz.underlying50 (by kernel_rfl)) ?_
  refine FW.dfun (y := .lit (.slice (some ⟨b, 0, none⟩) 0 xc)) rfl rfl rfl rfl (fun a w hk => FW.f_append0 (sz := 3) hk (FW.holds_nil _) rfl rfl Go.Proofs.Tryz.underlying50 (by kernel_rfl)) ?_
  refine FW.dfun (y := .lit (.slice (some ⟨b, 0, none⟩) 0 xc)) rfl rfl rfl rfl (fun a w hk => FW.f_assign hk (FW.holds_nil _) rfl) ?_
  refine FW.dend ?_; intro a w hk
  refine FW.wreg ?_; intro K' hK6
  refine FW.lfun (y := .lit (.slice (some ⟨b, 0, none⟩) 0 xc)) hk rfl rfl rfl rfl (FW.f_move hk (FW.holds_nil _) rfl) ?_; clear hk; intro a w hk
  refine FW.lfun (y := .lit (.slice (some ⟨b, 0, none⟩) 0 xc)) hk rfl rfl rfl rfl (FW.f_move hk (FW.holds_nil _) rfl) ?_; clear hk; intro a w hk
  refine FW.lfun (y := .lit (.int .i64 0)) hk rfl rfl rfl rfl (FW.f_pure (FW.p_len Go.Proofs.Tryz.underlying50 hk.kn (FW.holds_nil _) rfl)) ?_; clear hk; intro a w hk
  refine FW.lfun (y := .lit (.int .i64 1)) hk rfl rfl rfl rfl (FW.f_move hk (FW.holds_nil _) rfl) ?_; clear hk; intro a w hk
  refine FW.lfun (y := .lit (.slice (some ⟨b, 0, none⟩) 1 xc)) hk rfl rfl rfl rfl (FW.f_slPart (sz := 3) hk (FW.holds_nil _) rfl rfl rfl hcp Go.Proofs.Tryz.underlying50 (by kernel_rfl)) ?_; clear hk; intro a w hk
  refine FW.l_clearOne (x0 := x0) (j := 0) (I' := [FW.orow (some ⟨b, 0, none⟩) xc 52 3 ApiFall.cells []]) hk rfl rfl Go.Proofs.Tryz.underlying50 rfl rfl rfl rfl ?_; clear hk; intro w hk
  refine FW.lend (hK6 _ _ ?_); clear hK6 K'
  refine FW.wreg ?_; intro K' hK7
  refine FW.lfun (y := .lit (.slice (some ⟨b, 0, none⟩) 0 xc)) hk rfl rfl rfl rfl (FW.f_move hk (FW.holds_nil _) rfl) ?_; clear hk; intro a w hk
  refine FW.lfun (y := .lit (.slice (some ⟨b, 0, none⟩) 0 xc)) hk rfl rfl rfl rfl (FW.f_assign hk (FW.holds_nil _) rfl) ?_; clear hk; intro a w hk
  refine FW.lend (hK7 _ _ ?_); clear hK7 K'
  refine wp_ret ?_
  (repeat first | refine FW.then_ret ?_ | refine FW.block_ret ?_)
  exact FW.fretH1 hk rfl (FW.rtmp hk rfl) ⟨rfl, rfl⟩
theorem fallsDelete.ok' (l : List ApiFall) (i j : Int) (hl : l.length = 1 ∧ i = 0 ∧ j = 1) (xd : Option Addr) (xc : Nat) :
    FW.OkH Go.Proofs.Tryz.prog 100 [.lit (.slice xd (List.length l) xc), .lit (.int .i64 i), .lit (.int .i64 j)] [FW.orow xd xc 52 3 ApiFall.cells l] (fun y I => y = .lit (.slice xd 0 xc) ∧ I = [FW.orow xd xc 52 3 ApiFall.cells []]) := by
  obtain ⟨h, rfl, rfl⟩ := hl
  match l, h with
  | [x0], _ => exact fallsDelete.ok x0 xd xc
end Go.Proofs.YtfbkgaandmebaaaGreat
namespace Go.Proofs.YtfbkgaandmebaaaGreat
set_option linter.unusedVariables false
set_option maxRecDepth 20000
set_option maxHeartbeats 10000000
theorem dev_Dev_Off.ok  (v0 : ODevDev) (r : Bool) (h : dev_Dev_Off.f v0 = some r) :
    ∀ (b0 : Nat) (xd0_0 : Option Addr) (xc0_0 : Nat) (xr0_1 : Nat) (xd0_3 : Option Addr) (xc0_3 : Nat), FW.OkH Go.Proofs.Tryz.prog 13 [.lit (.pointer (some ⟨b0, 0, none⟩))] (ODevDev.items b0 xd0_0 xc0_0 xr0_1 xd0_3 xc0_3 v0) (fun y I => y = .lit (.bool r) ∧ I = ODevDev.items b0 xd0_0 xc0_0 xr0_1 xd0_3 xc0_3 v0) := by
  intro b0 xd0_0 xc0_0 xr0_1 xd0_3 xc0_3
  refine FW.enterH (xs := [.lit (.pointer (some ⟨b0, 0, none⟩))]) Go.Proofs.Tryz.func13 rfl Go.Proofs.Tryz.ntmps13 rfl ?_
  intro M w0 a hk
  replace hk : FW.S M w0 a w0.toWorld 11 [FW.blk b0 75 ([.lit (.slice xd0_0 (List.length v0.sure) xc0_0), .lit (.map (some xr0_1)), .lit (.int .i64 v0.steps), .lit (.slice xd0_3 (List.length v0.falls) xc0_3), .lit (.bool v0.off)]), FW.orow xd0_0 xc0_0 9 1 c_str v0.sure, FW.mapI (.int .i64) (Value.int .i64) FW.evS xr0_1 v0.cache, FW.orow xd0_3 xc0_3 52 3 ApiFall.cells v0.falls] [(0, [], .lit (.pointer (some ⟨b0, 0, none⟩)))] := hk
  unfold dev_Dev_Off.f at h
  refine FW.wreg ?_; intro K' hK1
  refine FW.lfun (y := .lit (.bool false)) hk rfl rfl rfl rfl (FW.f_assign hk (FW.holds_nil _) rfl) ?_; clear hk; intro a w hk
  refine FW.lend (hK1 _ _ ?_); clear hK1 K'
  refine FW.wreg ?_; intro K' hK2
  refine FW.lfun (y := .lit (.pointer (some ⟨b0, 0, none⟩))) hk rfl rfl rfl rfl (FW.f_move hk (FW.holds_nil _) rfl) ?_; clear hk; intro a w hk
  refine FW.lfun (y := .lit (.bool false)) hk rfl rfl rfl rfl ((FW.f_pure (FW.p_ptrEq Go.Proofs.Tryz.underlying24 hk.kn (FW.holds_nil _) rfl rfl rfl))) ?_; clear hk; intro a w hk
  refine FW.lfun (y := .lit (.bool false)) hk rfl rfl rfl rfl (FW.f_move hk (FW.holds_nil _) rfl) ?_; clear hk; intro a w hk
  refine FW.lfunG (y := .lit (.pointer (some ⟨b0, 0, none⟩))) hk rfl rfl rfl rfl rfl rfl rfl rfl (fun hc => FW.f_move hk hc rfl) ?_; clear hk; intro a w hk
  refine FW.lfunG (y := .lit (.pointer (some ⟨b0, 0, none⟩))) hk rfl rfl rfl rfl rfl rfl rfl rfl (fun hc => (FW.f_pure (FW.p_nilCheck hk.kn hc rfl))) ?_; clear hk; intro a w hk
  refine FW.lfunG (y := .lit (.pointer (some ⟨b0, 4, none⟩))) hk rfl rfl rfl rfl rfl rfl rfl rfl (fun hc => FW.f_fieldPtr hk hc rfl Go.Proofs.Tryz.underlying75 rfl (by kernel_rfl) rfl) ?_; clear hk; intro a w hk
  refine FW.lfunG (y := .lit (.bool v0.off)) hk rfl rfl rfl rfl rfl rfl rfl rfl (fun hc => FW.f_loadBlk1 hk hc (j := 0) rfl rfl Go.Proofs.Tryz.underlying4 rfl rfl) ?_; clear hk; intro a w hk
  refine FW.lfun (y := .lit (.bool v0.off)) hk rfl rfl rfl rfl ((FW.f_pure (FW.p_pickX hk.kn (FW.holds_nil _) rfl rfl))) ?_; clear hk; intro a w hk
  refine FW.lfun (y := .lit (.bool v0.off)) hk rfl rfl rfl rfl (FW.f_assign hk (FW.holds_nil _) rfl) ?_; clear hk; intro a w hk
  refine FW.lend (hK2 _ _ ?_); clear hK2 K'
  refine wp_ret ?_
  (repeat first | refine FW.then_ret ?_ | refine FW.block_ret ?_)
  obtain rfl := Option.some.inj h
  replace hk := FW.S.keep (I1 := [FW.blk b0 75 ([.lit (.slice xd0_0 (List.length v0.sure) xc0_0), .lit (.map (some xr0_1)), .lit (.int .i64 v0.steps), .lit (.slice xd0_3 (List.length v0.falls) xc0_3), .lit (.bool v0.off)]), FW.orow xd0_0 xc0_0 9 1 c_str v0.sure, FW.mapI (.int .i64) (Value.int .i64) FW.evS xr0_1 v0.cache, FW.orow xd0_3 xc0_3 52 3 ApiFall.cells v0.falls]) (I2 := []) (js := [3, 3, 3, 3]) hk rfl
  exact FW.fretH1 hk rfl (FW.rtmp hk rfl) ⟨rfl, rfl⟩
theorem dev_Dev_Len.ok  (v0 : ODevDev) (r : Int) (h : dev_Dev_Len.f v0 = some r) :
    ∀ (b0 : Nat) (xd0_0 : Option Addr) (xc0_0 : Nat) (xr0_1 : Nat) (xd0_3 : Option Addr) (xc0_3 : Nat), FW.OkH Go.Proofs.Tryz.prog 36 [.lit (.pointer (some ⟨b0, 0, none⟩))] (ODevDev.items b0 xd0_0 xc0_0 xr0_1 xd0_3 xc0_3 v0) (fun y I => y = .lit (.int .i64 r) ∧ I = ODevDev.items b0 xd0_0 xc0_0 xr0_1 xd0_3 xc0_3 v0) := by
  intro b0 xd0_0 xc0_0 xr0_1 xd0_3 xc0_3
  refine FW.enterH (xs := [.lit (.pointer (some ⟨b0, 0, none⟩))]) Go.Proofs.Tryz.func36 rfl Go.Proofs.Tryz.ntmps36 rfl ?_
  intro M w0 a hk
  replace hk : FW.S M w0 a w0.toWorld 10 [FW.blk b0 75 ([.lit (.slice xd0_0 (List.length v0.sure) xc0_0), .lit (.map (some xr0_1)), .lit (.int .i64 v0.steps), .lit (.slice xd0_3 (List.length v0.falls) xc0_3), .lit (.bool v0.off)]), FW.orow xd0_0 xc0_0 9 1 c_str v0.sure, FW.mapI (.int .i64) (Value.int .i64) FW.evS xr0_1 v0.cache, FW.orow xd0_3 xc0_3 52 3 ApiFall.cells v0.falls] [(0, [], .lit (.pointer (some ⟨b0, 0, none⟩)))] := hk
  unfold dev_Dev_Len.f at h
  refine FW.wreg ?_; intro K' hK1
  refine FW.lfun (y := .lit (.int .i64 0)) hk rfl rfl rfl rfl (FW.f_assign hk (FW.holds_nil _) rfl) ?_; clear hk; intro a w hk
  refine FW.lend (hK1 _ _ ?_); clear hK1 K'
  refine FW.wseq ?_; intro K' hK2
  refine FW.wreg ?_; intro K' hK3
  refine FW.lfun (y := .lit (.pointer (some ⟨b0, 0, none⟩))) hk rfl rfl rfl rfl (FW.f_move hk (FW.holds_nil _) rfl) ?_; clear hk; intro a w hk
  refine FW.lfun (y := .lit (.bool false)) hk rfl rfl rfl rfl ((FW.f_pure (FW.p_ptrEq Go.Proofs.Tryz.underlying24 hk.kn (FW.holds_nil _) rfl rfl rfl))) ?_; clear hk; intro a w hk
  refine FW.lend (hK3 _ _ ?_); clear hK3 K'
  refine FW.wcondX hk rfl ?_
  refine wp_skip ?_
  (repeat first | refine FW.then_normal ?_ | refine FW.block_normal ?_); refine hK2 _ _ ?_
  refine FW.wreg ?_; intro K' hK4
  refine FW.lfun (y := .lit (.pointer (some ⟨b0, 0, none⟩))) hk rfl rfl rfl rfl (FW.f_move hk (FW.holds_nil _) rfl) ?_; clear hk; intro a w hk
  refine FW.lfun (y := .lit (.pointer (some ⟨b0, 0, none⟩))) hk rfl rfl rfl rfl ((FW.f_pure (FW.p_nilCheck hk.kn (FW.holds_nil _) rfl))) ?_; clear hk; intro a w hk
  refine FW.lfun (y := .lit (.pointer (some ⟨b0, 0, none⟩))) hk rfl rfl rfl rfl (FW.f_fieldPtr hk (FW.holds_nil _) rfl Go.Proofs.Tryz.underlying75 rfl (by kernel_rfl) rfl) ?_; clear hk; intro a w hk
  refine FW.lfun (y := .lit (.slice xd0_0 (List.length v0.sure) xc0_0)) hk rfl rfl rfl rfl (FW.f_loadBlk1 hk (FW.holds_nil _) (j := 0) rfl rfl Go.Proofs.Tryz.underlying72 rfl rfl) ?_; clear hk; intro a w hk
  refine FW.lfun (y := .lit (.int .i64 (List.length v0.sure : Int))) hk rfl rfl rfl rfl ((FW.f_pure (FW.p_len Go.Proofs.Tryz.underlying72 hk.kn (FW.holds_nil _) rfl))) ?_; clear hk; intro a w hk
  refine FW.lfun (y := .lit (.int .i64 (List.length v0.sure : Int))) hk rfl rfl rfl rfl (FW.f_assign hk (FW.holds_nil _) rfl) ?_; clear hk; intro a w hk
  refine FW.lend (hK4 _ _ ?_); clear hK4 K'
  refine wp_ret ?_
  (repeat first | refine FW.then_ret ?_ | refine FW.block_ret ?_)
  obtain rfl := Option.some.inj h
  replace hk := FW.S.keep (I1 := [FW.blk b0 75 ([.lit (.slice xd0_0 (List.length v0.sure) xc0_0), .lit (.map (some xr0_1)), .lit (.int .i64 v0.steps), .lit (.slice xd0_3 (List.length v0.falls) xc0_3), .lit (.bool v0.off)]), FW.orow xd0_0 xc0_0 9 1 c_str v0.sure, FW.mapI (.int .i64) (Value.int .i64) FW.evS xr0_1 v0.cache, FW.orow xd0_3 xc0_3 52 3 ApiFall.cells v0.falls]) (I2 := []) (js := [3, 3, 3, 3]) hk rfl
  exact FW.fretH1 hk rfl (FW.rtmp hk rfl) ⟨rfl, rfl⟩
theorem dev_Dev_Steps.ok  (v0 : ODevDev) (r : Int) (h : dev_Dev_Steps.f v0 = some r) :
    ∀ (b0 : Nat) (xd0_0 : Option Addr) (xc0_0 : Nat) (xr0_1 : Nat) (xd0_3 : Option Addr) (xc0_3 : Nat), FW.OkH Go.Proofs.Tryz.prog 23 [.lit (.pointer (some ⟨b0, 0, none⟩))] (ODevDev.items b0 xd0_0 xc0_0 xr0_1 xd0_3 xc0_3 v0) (fun y I => y = .lit (.int .i64 r) ∧ I = ODevDev.items b0 xd0_0 xc0_0 xr0_1 xd0_3 xc0_3 v0) := by
  intro b0 xd0_0 xc0_0 xr0_1 xd0_3 xc0_3
  refine FW.enterH (xs := [.lit (.pointer (some ⟨b0, 0, none⟩))]) Go.Proofs.Tryz.func23 rfl Go.Proofs.Tryz.ntmps23 rfl ?_
  intro M w0 a hk
  replace hk : FW.S M w0 a w0.toWorld 9 [FW.blk b0 75 ([.lit (.slice xd0_0 (List.length v0.sure) xc0_0), .lit (.map (some xr0_1)), .lit (.int .i64 v0.steps), .lit (.slice xd0_3 (List.length v0.falls) xc0_3), .lit (.bool v0.off)]), FW.orow xd0_0 xc0_0 9 1 c_str v0.sure, FW.mapI (.int .i64) (Value.int .i64) FW.evS xr0_1 v0.cache, FW.orow xd0_3 xc0_3 52 3 ApiFall.cells v0.falls] [(0, [], .lit (.pointer (some ⟨b0, 0, none⟩)))] := hk
  unfold dev_Dev_Steps.f at h
  refine FW.wreg ?_; intro K' hK1
  refine FW.lfun (y := .lit (.int .i64 0)) hk rfl rfl rfl rfl (FW.f_assign hk (FW.holds_nil _) rfl) ?_; clear hk; intro a w hk
  refine FW.lend (hK1 _ _ ?_); clear hK1 K'
  refine FW.wseq ?_; intro K' hK2
  refine FW.wreg ?_; intro K' hK3
  refine FW.lfun (y := .lit (.pointer (some ⟨b0, 0, none⟩))) hk rfl rfl rfl rfl (FW.f_move hk (FW.holds_nil _) rfl) ?_; clear hk; intro a w hk
  refine FW.lfun (y := .lit (.bool false)) hk rfl rfl rfl rfl ((FW.f_pure (FW.p_ptrEq Go.Proofs.Tryz.underlying24 hk.kn (FW.holds_nil _) rfl rfl rfl))) ?_; clear hk; intro a w hk
  refine FW.lend (hK3 _ _ ?_); clear hK3 K'
  refine FW.wcondX hk rfl ?_
  refine wp_skip ?_
  (repeat first | refine FW.then_normal ?_ | refine FW.block_normal ?_); refine hK2 _ _ ?_
  refine FW.wreg ?_; intro K' hK4
  refine FW.lfun (y := .lit (.pointer (some ⟨b0, 0, none⟩))) hk rfl rfl rfl rfl (FW.f_move hk (FW.holds_nil _) rfl) ?_; clear hk; intro a w hk
  refine FW.lfun (y := .lit (.pointer (some ⟨b0, 0, none⟩))) hk rfl rfl rfl rfl ((FW.f_pure (FW.p_nilCheck hk.kn (FW.holds_nil _) rfl))) ?_; clear hk; intro a w hk
  refine FW.lfun (y := .lit (.pointer (some ⟨b0, 2, none⟩))) hk rfl rfl rfl rfl (FW.f_fieldPtr hk (FW.holds_nil _) rfl Go.Proofs.Tryz.underlying75 rfl (by kernel_rfl) rfl) ?_; clear hk; intro a w hk
  refine FW.lfun (y := .lit (.int .i64 v0.steps)) hk rfl rfl rfl rfl (FW.f_loadBlk1 hk (FW.holds_nil _) (j := 0) rfl rfl Go.Proofs.Tryz.underlying3 rfl rfl) ?_; clear hk; intro a w hk
  refine FW.lfun (y := .lit (.int .i64 v0.steps)) hk rfl rfl rfl rfl (FW.f_assign hk (FW.holds_nil _) rfl) ?_; clear hk; intro a w hk
  refine FW.lend (hK4 _ _ ?_); clear hK4 K'
  refine wp_ret ?_
  (repeat first | refine FW.then_ret ?_ | refine FW.block_ret ?_)
  obtain rfl := Option.some.inj h
  replace hk := FW.S.keep (I1 := [FW.blk b0 75 ([.lit (.slice xd0_0 (List.length v0.sure) xc0_0), .lit (.map (some xr0_1)), .lit (.int .i64 v0.steps), .lit (.slice xd0_3 (List.length v0.falls) xc0_3), .lit (.bool v0.off)]), FW.orow xd0_0 xc0_0 9 1 c_str v0.sure, FW.mapI (.int .i64) (Value.int .i64) FW.evS xr0_1 v0.cache, FW.orow xd0_3 xc0_3 52 3 ApiFall.cells v0.falls]) (I2 := []) (js := [3, 3, 3, 3]) hk rfl
  exact FW.fretH1 hk rfl (FW.rtmp hk rfl) ⟨rfl, rfl⟩
theorem dev_Dev_Up.ok  (v0 : ODevDev) (r : Bool × ODevDev) (h : dev_Dev_Up.f v0 = some r) :
    ∀ (b0 : Nat) (xd0_0 : Option Addr) (xc0_0 : Nat) (xr0_1 : Nat) (xd0_3 : Option Addr) (xc0_3 : Nat), FW.OkH Go.Proofs.Tryz.prog 25 [.lit (.pointer (some ⟨b0, 0, none⟩))] (ODevDev.items b0 xd0_0 xc0_0 xr0_1 xd0_3 xc0_3 v0) (fun y I => ∃ (zxd0_0 : Option Addr) (zxc0_0 : Nat) (zxr0_1 : Nat) (zxd0_3 : Option Addr) (zxc0_3 : Nat), y = .lit (.bool r.1) ∧ I = ODevDev.items b0 zxd0_0 zxc0_0 zxr0_1 zxd0_3 zxc0_3 r.2) := by
  intro b0 xd0_0 xc0_0 xr0_1 xd0_3 xc0_3
  refine FW.enterH (xs := [.lit (.pointer (some ⟨b0, 0, none⟩))]) Go.Proofs.Tryz.func25 rfl Go.Proofs.Tryz.ntmps25 rfl ?_
  intro M w0 a hk
  replace hk : FW.S M w0 a w0.toWorld 15 [FW.blk b0 75 ([.lit (.slice xd0_0 (List.length v0.sure) xc0_0), .lit (.map (some xr0_1)), .lit (.int .i64 v0.steps), .lit (.slice xd0_3 (List.length v0.falls) xc0_3), .lit (.bool v0.off)]), FW.orow xd0_0 xc0_0 9 1 c_str v0.sure, FW.mapI (.int .i64) (Value.int .i64) FW.evS xr0_1 v0.cache, FW.orow xd0_3 xc0_3 52 3 ApiFall.cells v0.falls] [(0, [], .lit (.pointer (some ⟨b0, 0, none⟩)))] := hk
  unfold dev_Dev_Up.f at h
  refine FW.wreg ?_; intro K' hK1
  refine FW.lfun (y := .lit (.bool false)) hk rfl rfl rfl rfl (FW.f_assign hk (FW.holds_nil _) rfl) ?_; clear hk; intro a w hk
  refine FW.lend (hK1 _ _ ?_); clear hK1 K'
  refine FW.wseq ?_; intro K' hK2
  refine FW.wreg ?_; intro K' hK3
  refine FW.lfun (y := .lit (.pointer (some ⟨b0, 0, none⟩))) hk rfl rfl rfl rfl (FW.f_move hk (FW.holds_nil _) rfl) ?_; clear hk; intro a w hk
  refine FW.lfun (y := .lit (.bool false)) hk rfl rfl rfl rfl ((FW.f_pure (FW.p_ptrEq Go.Proofs.Tryz.underlying24 hk.kn (FW.holds_nil _) rfl rfl rfl))) ?_; clear hk; intro a w hk
  refine FW.lfun (y := .lit (.bool false)) hk rfl rfl rfl rfl (FW.f_move hk (FW.holds_nil _) rfl) ?_; clear hk; intro a w hk
  refine FW.lfunG (y := .lit (.pointer (some ⟨b0, 0, none⟩))) hk rfl rfl rfl rfl rfl rfl rfl rfl (fun hc => FW.f_move hk hc rfl) ?_; clear hk; intro a w hk
  refine FW.lfunG (y := .lit (.pointer (some ⟨b0, 0, none⟩))) hk rfl rfl rfl rfl rfl rfl rfl rfl (fun hc => (FW.f_pure (FW.p_nilCheck hk.kn hc rfl))) ?_; clear hk; intro a w hk
  refine FW.lfunG (y := .lit (.pointer (some ⟨b0, 4, none⟩))) hk rfl rfl rfl rfl rfl rfl rfl rfl (fun hc => FW.f_fieldPtr hk hc rfl Go.Proofs.Tryz.underlying75 rfl (by kernel_rfl) rfl) ?_; clear hk; intro a w hk
  refine FW.lfunG (y := .lit (.bool v0.off)) hk rfl rfl rfl rfl rfl rfl rfl rfl (fun hc => FW.f_loadBlk1 hk hc (j := 0) rfl rfl Go.Proofs.Tryz.underlying4 rfl rfl) ?_; clear hk; intro a w hk
  refine FW.lfunG (y := .lit (.bool (!v0.off))) hk rfl rfl rfl rfl rfl rfl rfl rfl (fun hc => (FW.f_pure (FW.p_not hk.kn hc rfl))) ?_; clear hk; intro a w hk
  refine FW.lfun (y := .lit (.bool (!v0.off))) hk rfl rfl rfl rfl ((FW.f_pure (FW.p_pickX hk.kn (FW.holds_nil _) rfl rfl))) ?_; clear hk; intro a w hk
  refine FW.lend (hK3 _ _ ?_); clear hK3 K'
  refine FW.wcondF (b := (!v0.off)) hk h rfl (fun h hb => ?_) (fun h hb => ?_)
  · skip
    refine FW.wreg ?_; intro K' hK4
    refine FW.lfun (y := .lit (.bool false)) hk rfl rfl rfl rfl (FW.f_assign hk (FW.holds_nil _) rfl) ?_; clear hk; intro a w hk
    refine FW.lend (hK4 _ _ ?_); clear hK4 K'
    refine wp_ret ?_
    (repeat first | refine FW.then_ret ?_ | refine FW.block_ret ?_)
    obtain rfl := Option.some.inj h
    replace hk := FW.S.keep (I1 := [FW.blk b0 75 ([.lit (.slice xd0_0 (List.length v0.sure) xc0_0), .lit (.map (some xr0_1)), .lit (.int .i64 v0.steps), .lit (.slice xd0_3 (List.length v0.falls) xc0_3), .lit (.bool v0.off)]), FW.orow xd0_0 xc0_0 9 1 c_str v0.sure, FW.mapI (.int .i64) (Value.int .i64) FW.evS xr0_1 v0.cache, FW.orow xd0_3 xc0_3 52 3 ApiFall.cells v0.falls]) (I2 := []) (js := [3, 3, 3, 3]) hk rfl
    exact FW.fretH1 hk rfl (FW.rtmp hk rfl) ⟨xd0_0, xc0_0, xr0_1, xd0_3, xc0_3, rfl, rfl⟩
  refine wp_skip ?_
  (repeat first | refine FW.then_normal ?_ | refine FW.block_normal ?_); refine hK2 _ _ ?_
  refine FW.wreg ?_; intro K' hK5
  refine FW.lfun (y := .lit (.pointer (some ⟨b0, 0, none⟩))) hk rfl rfl rfl rfl (FW.f_move hk (FW.holds_nil _) rfl) ?_; clear hk; intro a w hk
  refine FW.lfun (y := .lit (.pointer (some ⟨b0, 0, none⟩))) hk rfl rfl rfl rfl ((FW.f_pure (FW.p_nilCheck hk.kn (FW.holds_nil _) rfl))) ?_; clear hk; intro a w hk
  refine FW.lfun (y := .lit (.pointer (some ⟨b0, 4, none⟩))) hk rfl rfl rfl rfl (FW.f_fieldPtr hk (FW.holds_nil _) rfl Go.Proofs.Tryz.underlying75 rfl (by kernel_rfl) rfl) ?_; clear hk; intro a w hk
  refine FW.l_store (I' := [FW.blk b0 75 ([.lit (.slice xd0_0 (List.length v0.sure) xc0_0), .lit (.map (some xr0_1)), .lit (.int .i64 v0.steps), .lit (.slice xd0_3 (List.length v0.falls) xc0_3), .lit (.bool false)]), FW.orow xd0_0 xc0_0 9 1 c_str v0.sure, FW.mapI (.int .i64) (Value.int .i64) FW.evS xr0_1 v0.cache, FW.orow xd0_3 xc0_3 52 3 ApiFall.cells v0.falls]) (cs' := [.lit (.slice xd0_0 (List.length v0.sure) xc0_0), .lit (.map (some xr0_1)), .lit (.int .i64 v0.steps), .lit (.slice xd0_3 (List.length v0.falls) xc0_3), .lit (.bool false)]) (j := 0) hk rfl rfl rfl rfl rfl (by kernel_rfl) rfl rfl ?_; clear hk; intro w hk
  refine FW.lend (hK5 _ _ ?_); clear hK5 K'
  refine FW.wreg ?_; intro K' hK6
  refine FW.lfun (y := .lit (.bool true)) hk rfl rfl rfl rfl (FW.f_assign hk (FW.holds_nil _) rfl) ?_; clear hk; intro a w hk
  refine FW.lend (hK6 _ _ ?_); clear hK6 K'
  refine wp_ret ?_
  (repeat first | refine FW.then_ret ?_ | refine FW.block_ret ?_)
  obtain rfl := Option.some.inj h
  replace hk := FW.S.keep (I1 := [FW.blk b0 75 ([.lit (.slice xd0_0 (List.length v0.sure) xc0_0), .lit (.map (some xr0_1)), .lit (.int .i64 v0.steps), .lit (.slice xd0_3 (List.length v0.falls) xc0_3), .lit (.bool false)]), FW.orow xd0_0 xc0_0 9 1 c_str v0.sure, FW.mapI (.int .i64) (Value.int .i64) FW.evS xr0_1 v0.cache, FW.orow xd0_3 xc0_3 52 3 ApiFall.cells v0.falls]) (I2 := []) (js := [3, 3, 3, 3]) hk rfl
  exact FW.fretH1 hk rfl (FW.rtmp hk rfl) ⟨xd0_0, xc0_0, xr0_1, xd0_3, xc0_3, rfl, rfl⟩
theorem dev_Dev_Read.ok  (v0 : ODevDev) (v1 : Int) (r : List UInt8 × Int) (h : dev_Dev_Read.f v0 v1 = some r) :
    ∀ (b0 : Nat) (xd0_0 : Option Addr) (xc0_0 : Nat) (xr0_1 : Nat) (xd0_3 : Option Addr) (xc0_3 : Nat), FW.OkH Go.Proofs.Tryz.prog 61 [.lit (.pointer (some ⟨b0, 0, none⟩)), .lit (.int .i64 v1)] (ODevDev.items b0 xd0_0 xc0_0 xr0_1 xd0_3 xc0_3 v0) (fun y I => y = .tup [.lit (.string (FW.B r.1)), .lit (.int .i64 r.2)] ∧ I = ODevDev.items b0 xd0_0 xc0_0 xr0_1 xd0_3 xc0_3 v0) := by
  intro b0 xd0_0 xc0_0 xr0_1 xd0_3 xc0_3
  refine FW.enterH (xs := [.lit (.pointer (some ⟨b0, 0, none⟩)), .lit (.int .i64 v1)]) Go.Proofs.Tryz.func61 rfl Go.Proofs.Tryz.ntmps61 rfl ?_
  intro M w0 a hk
  replace hk : FW.S M w0 a w0.toWorld 41 [FW.blk b0 75 ([.lit (.slice xd0_0 (List.length v0.sure) xc0_0), .lit (.map (some xr0_1)), .lit (.int .i64 v0.steps), .lit (.slice xd0_3 (List.length v0.falls) xc0_3), .lit (.bool v0.off)]), FW.orow xd0_0 xc0_0 9 1 c_str v0.sure, FW.mapI (.int .i64) (Value.int .i64) FW.evS xr0_1 v0.cache, FW.orow xd0_3 xc0_3 52 3 ApiFall.cells v0.falls] [(0, [], .lit (.pointer (some ⟨b0, 0, none⟩))), (1, [], .lit (.int .i64 v1))] := hk
  unfold dev_Dev_Read.f at h
  refine FW.wreg ?_; intro K' hK1
  refine FW.lfun (y := .lit (.string (FW.B ([] : List UInt8)))) hk rfl rfl rfl rfl (FW.f_assign hk (FW.holds_nil _) rfl) ?_; clear hk; intro a w hk
  refine FW.lfun (y := .lit (.int .i64 0)) hk rfl rfl rfl rfl (FW.f_assign hk (FW.holds_nil _) rfl) ?_; clear hk; intro a w hk
  refine FW.lend (hK1 _ _ ?_); clear hK1 K'
  refine FW.wseq ?_; intro K' hK2
  refine wp_block ?_
  refine FW.wreg ?_; intro K' hK3
  refine FW.lfun (y := .lit (.pointer (some ⟨b0, 0, none⟩))) hk rfl rfl rfl rfl (FW.f_move hk (FW.holds_nil _) rfl) ?_; clear hk; intro a w hk
  obtain ⟨t1, hr_t1, h⟩ := FW.bnd h
  refine FW.l_callH (I1 := (ODevDev.items b0 xd0_0 xc0_0 xr0_1 xd0_3 xc0_3 v0)) (I2 := []) (js := [3, 3, 3, 3]) hk rfl rfl rfl rfl rfl Go.Proofs.Tryz.func13 rfl (by kernel_rfl) (dev_Dev_Off.ok v0 _ hr_t1 b0 xd0_0 xc0_0 xr0_1 xd0_3 xc0_3) ?_; clear hk
  rintro _ _ ⟨rfl, rfl⟩ a w hk
  refine FW.lfun (y := .lit (.bool t1)) hk rfl rfl rfl rfl (FW.f_assign hk (FW.holds_nil _) rfl) ?_; clear hk; intro a w hk
  refine FW.lend (hK3 _ _ ?_); clear hK3 K'
  refine FW.wcondF (b := t1) hk h rfl (fun h hb => ?_) (fun h hb => ?_)
  · skip
    refine FW.wreg ?_; intro K' hK4
    refine FW.lfun (y := .lit (.string (FW.B ([] : List UInt8)))) hk rfl rfl rfl rfl (FW.f_assign hk (FW.holds_nil _) rfl) ?_; clear hk; intro a w hk
    refine FW.lfun (y := .lit (.int .i64 7)) hk rfl rfl rfl rfl (FW.f_assign hk (FW.holds_nil _) rfl) ?_; clear hk; intro a w hk
    refine FW.lend (hK4 _ _ ?_); clear hK4 K'
    refine wp_ret ?_
    (repeat first | refine FW.then_ret ?_ | refine FW.block_ret ?_)
    obtain rfl := Option.some.inj h
    replace hk := FW.S.keep (I1 := [FW.blk b0 75 ([.lit (.slice xd0_0 (List.length v0.sure) xc0_0), .lit (.map (some xr0_1)), .lit (.int .i64 v0.steps), .lit (.slice xd0_3 (List.length v0.falls) xc0_3), .lit (.bool v0.off)]), FW.orow xd0_0 xc0_0 9 1 c_str v0.sure, FW.mapI (.int .i64) (Value.int .i64) FW.evS xr0_1 v0.cache, FW.orow xd0_3 xc0_3 52 3 ApiFall.cells v0.falls]) (I2 := []) (js := [3, 3, 3, 3]) hk rfl
    exact FW.fretH2 hk rfl (FW.rtmp hk rfl) (FW.rtmp hk rfl) ⟨rfl, rfl⟩
  refine FW.wreg ?_; intro K' hK5
  refine FW.lfun (y := .lit (.int .i64 v1)) hk rfl rfl rfl rfl (FW.f_move hk (FW.holds_nil _) rfl) ?_; clear hk; intro a w hk
  refine FW.lfun (y := .lit (.bool (decide (v1 < 0)))) hk rfl rfl rfl rfl ((FW.f_pure (FW.p_lss hk.kn (FW.holds_nil _) rfl rfl))) ?_; clear hk; intro a w hk
  refine FW.lfun (y := .lit (.bool (decide (v1 < 0)))) hk rfl rfl rfl rfl (FW.f_move hk (FW.holds_nil _) rfl) ?_; clear hk; intro a w hk
  refine FW.lfunG (y := .lit (.int .i64 v1)) hk rfl rfl rfl rfl rfl rfl rfl rfl (fun hc => FW.f_move hk hc rfl) ?_; clear hk; intro a w hk
  refine FW.lfunG (y := .lit (.pointer (some ⟨b0, 0, none⟩))) hk rfl rfl rfl rfl rfl rfl rfl rfl (fun hc => FW.f_move hk hc rfl) ?_; clear hk; intro a w hk
  refine FW.lfunG (y := .lit (.pointer (some ⟨b0, 0, none⟩))) hk rfl rfl rfl rfl rfl rfl rfl rfl (fun hc => (FW.f_pure (FW.p_nilCheck hk.kn hc rfl))) ?_; clear hk; intro a w hk
  refine FW.lfunG (y := .lit (.pointer (some ⟨b0, 0, none⟩))) hk rfl rfl rfl rfl rfl rfl rfl rfl (fun hc => FW.f_fieldPtr hk hc rfl Go.Proofs.Tryz.underlying75 rfl (by kernel_rfl) rfl) ?_; clear hk; intro a w hk
  refine FW.lfunG (y := .lit (.slice xd0_0 (List.length v0.sure) xc0_0)) hk rfl rfl rfl rfl rfl rfl rfl rfl (fun hc => FW.f_loadBlk1 hk hc (j := 0) rfl rfl Go.Proofs.Tryz.underlying72 rfl rfl) ?_; clear hk; intro a w hk
  refine FW.lfunG (y := .lit (.int .i64 (List.length v0.sure : Int))) hk rfl rfl rfl rfl rfl rfl rfl rfl (fun hc => (FW.f_pure (FW.p_len Go.Proofs.Tryz.underlying72 hk.kn hc rfl))) ?_; clear hk; intro a w hk
  refine FW.lfunG (y := .lit (.bool (decide ((List.length v0.sure : Int) ≤ v1)))) hk rfl rfl rfl rfl rfl rfl rfl rfl (fun hc => (FW.f_pure (FW.p_geq hk.kn hc rfl rfl))) ?_; clear hk; intro a w hk
  refine FW.lfun (y := .lit (.bool ((decide (v1 < 0)) || (decide ((List.length v0.sure : Int) ≤ v1))))) hk rfl rfl rfl rfl ((FW.f_pure (FW.p_pick_or hk.kn (FW.holds_nil _) rfl rfl))) ?_; clear hk; intro a w hk
  refine FW.lfun (y := .lit (.bool ((decide (v1 < 0)) || (decide ((List.length v0.sure : Int) ≤ v1))))) hk rfl rfl rfl rfl (FW.f_assign hk (FW.holds_nil _) rfl) ?_; clear hk; intro a w hk
  refine FW.lend (hK5 _ _ ?_); clear hK5 K'
  refine FW.wcondF (b := ((decide (v1 < 0)) || (decide ((List.length v0.sure : Int) ≤ v1)))) hk h rfl (fun h hb => ?_) (fun h hb => ?_)
  · skip
    refine FW.wreg ?_; intro K' hK6
    refine FW.lfun (y := .lit (.string (FW.B ([] : List UInt8)))) hk rfl rfl rfl rfl (FW.f_assign hk (FW.holds_nil _) rfl) ?_; clear hk; intro a w hk
    refine FW.lfun (y := .lit (.int .i64 1)) hk rfl rfl rfl rfl (FW.f_assign hk (FW.holds_nil _) rfl) ?_; clear hk; intro a w hk
    refine FW.lend (hK6 _ _ ?_); clear hK6 K'
    refine wp_ret ?_
    (repeat first | refine FW.then_ret ?_ | refine FW.block_ret ?_)
    obtain rfl := Option.some.inj h
    replace hk := FW.S.keep (I1 := [FW.blk b0 75 ([.lit (.slice xd0_0 (List.length v0.sure) xc0_0), .lit (.map (some xr0_1)), .lit (.int .i64 v0.steps), .lit (.slice xd0_3 (List.length v0.falls) xc0_3), .lit (.bool v0.off)]), FW.orow xd0_0 xc0_0 9 1 c_str v0.sure, FW.mapI (.int .i64) (Value.int .i64) FW.evS xr0_1 v0.cache, FW.orow xd0_3 xc0_3 52 3 ApiFall.cells v0.falls]) (I2 := []) (js := [3, 3, 3, 3]) hk rfl
    exact FW.fretH2 hk rfl (FW.rtmp hk rfl) (FW.rtmp hk rfl) ⟨rfl, rfl⟩
  refine wp_skip ?_
  (repeat first | refine FW.then_normal ?_ | refine FW.block_normal ?_); refine hK2 _ _ ?_
  refine FW.wseq ?_; intro K' hK7
  refine FW.wreg ?_; intro K' hK8
  refine FW.lfun (y := .lit (.pointer (some ⟨b0, 0, none⟩))) hk rfl rfl rfl rfl (FW.f_move hk (FW.holds_nil _) rfl) ?_; clear hk; intro a w hk
  refine FW.lfun (y := .lit (.pointer (some ⟨b0, 0, none⟩))) hk rfl rfl rfl rfl ((FW.f_pure (FW.p_nilCheck hk.kn (FW.holds_nil _) rfl))) ?_; clear hk; intro a w hk
  refine FW.lfun (y := .lit (.pointer (some ⟨b0, 1, none⟩))) hk rfl rfl rfl rfl (FW.f_fieldPtr hk (FW.holds_nil _) rfl Go.Proofs.Tryz.underlying75 rfl (by kernel_rfl) rfl) ?_; clear hk; intro a w hk
  refine FW.lfun (y := .lit (.map (some xr0_1))) hk rfl rfl rfl rfl (FW.f_loadBlk1 hk (FW.holds_nil _) (j := 0) rfl rfl Go.Proofs.Tryz.underlying73 rfl rfl) ?_; clear hk; intro a w hk
  refine FW.lfun (y := .lit (.int .i64 v1)) hk rfl rfl rfl rfl (FW.f_move hk (FW.holds_nil _) rfl) ?_; clear hk; intro a w hk
  refine FW.lfun (y := .tup [.lit (.string (FW.B ((FW.mget v0.cache v1).getD ([] : List UInt8)))), .lit (.bool ((FW.mget v0.cache v1).isSome))]) hk rfl rfl rfl rfl (FW.f_lookup2 (z := ([] : List UInt8)) (ev := FW.evS) hk (FW.holds_nil _) (j := 2) rfl rfl rfl Go.Proofs.Tryz.underlying73 Go.Proofs.Tryz.underlying3 (by kernel_rfl)) ?_; clear hk; intro a w hk
  refine FW.lfun (y := .tup [.lit (.string (FW.B ((FW.mget v0.cache v1).getD ([] : List UInt8)))), .lit (.bool ((FW.mget v0.cache v1).isSome))]) hk rfl rfl rfl rfl (FW.f_move hk (FW.holds_nil _) rfl) ?_; clear hk; intro a w hk
  refine FW.lfun (y := .lit (.string (FW.B ((FW.mget v0.cache v1).getD ([] : List UInt8))))) hk rfl rfl rfl rfl (FW.f_extract hk (FW.holds_nil _) rfl rfl) ?_; clear hk; intro a w hk
  refine FW.lfun (y := .lit (.bool ((FW.mget v0.cache v1).isSome))) hk rfl rfl rfl rfl (FW.f_extract hk (FW.holds_nil _) rfl rfl) ?_; clear hk; intro a w hk
  refine FW.lfun (y := .lit (.string (FW.B ((FW.mget v0.cache v1).getD ([] : List UInt8))))) hk rfl rfl rfl rfl (FW.f_assign hk (FW.holds_nil _) rfl) ?_; clear hk; intro a w hk
  refine FW.lfun (y := .lit (.bool ((FW.mget v0.cache v1).isSome))) hk rfl rfl rfl rfl (FW.f_assign hk (FW.holds_nil _) rfl) ?_; clear hk; intro a w hk
  refine FW.lend (hK8 _ _ ?_); clear hK8 K'
  refine FW.wreg ?_; intro K' hK9
  refine FW.lfun (y := .lit (.bool ((FW.mget v0.cache v1).isSome))) hk rfl rfl rfl rfl (FW.f_move hk (FW.holds_nil _) rfl) ?_; clear hk; intro a w hk
  refine FW.lend (hK9 _ _ ?_); clear hK9 K'
  refine FW.wcondF (b := (FW.mget v0.cache v1).isSome) hk h rfl (fun h hb => ?_) (fun h hb => ?_)
  · skip
    refine FW.wreg ?_; intro K' hK10
    refine FW.lfun (y := .lit (.string (FW.B ((FW.mget v0.cache v1).getD ([] : List UInt8))))) hk rfl rfl rfl rfl (FW.f_move hk (FW.holds_nil _) rfl) ?_; clear hk; intro a w hk
    refine FW.lfun (y := .lit (.string (FW.B ((FW.mget v0.cache v1).getD ([] : List UInt8))))) hk rfl rfl rfl rfl (FW.f_assign hk (FW.holds_nil _) rfl) ?_; clear hk; intro a w hk
    refine FW.lfun (y := .lit (.int .i64 0)) hk rfl rfl rfl rfl (FW.f_assign hk (FW.holds_nil _) rfl) ?_; clear hk; intro a w hk
    refine FW.lend (hK10 _ _ ?_); clear hK10 K'
    refine wp_ret ?_
    (repeat first | refine FW.then_ret ?_ | refine FW.block_ret ?_)
    obtain rfl := Option.some.inj h
    replace hk := FW.S.keep (I1 := [FW.blk b0 75 ([.lit (.slice xd0_0 (List.length v0.sure) xc0_0), .lit (.map (some xr0_1)), .lit (.int .i64 v0.steps), .lit (.slice xd0_3 (List.length v0.falls) xc0_3), .lit (.bool v0.off)]), FW.orow xd0_0 xc0_0 9 1 c_str v0.sure, FW.mapI (.int .i64) (Value.int .i64) FW.evS xr0_1 v0.cache, FW.orow xd0_3 xc0_3 52 3 ApiFall.cells v0.falls]) (I2 := []) (js := [3, 3, 3, 3]) hk rfl
    exact FW.fretH2 hk rfl (FW.rtmp hk rfl) (FW.rtmp hk rfl) ⟨rfl, rfl⟩
  refine wp_skip ?_
  (repeat first | refine FW.then_normal ?_ | refine FW.block_normal ?_); refine hK7 _ _ ?_
  refine FW.wreg ?_; intro K' hK11
  refine FW.lfun (y := .lit (.pointer (some ⟨b0, 0, none⟩))) hk rfl rfl rfl rfl (FW.f_move hk (FW.holds_nil _) rfl) ?_; clear hk; intro a w hk
  refine FW.lfun (y := .lit (.pointer (some ⟨b0, 0, none⟩))) hk rfl rfl rfl rfl ((FW.f_pure (FW.p_nilCheck hk.kn (FW.holds_nil _) rfl))) ?_; clear hk; intro a w hk
  refine FW.lfun (y := .lit (.pointer (some ⟨b0, 0, none⟩))) hk rfl rfl rfl rfl (FW.f_fieldPtr hk (FW.holds_nil _) rfl Go.Proofs.Tryz.underlying75 rfl (by kernel_rfl) rfl) ?_; clear hk; intro a w hk
  refine FW.lfun (y := .lit (.slice xd0_0 (List.length v0.sure) xc0_0)) hk rfl rfl rfl rfl (FW.f_loadBlk1 hk (FW.holds_nil _) (j := 0) rfl rfl Go.Proofs.Tryz.underlying72 rfl rfl) ?_; clear hk; intro a w hk
  refine FW.lfun (y := .lit (.int .i64 v1)) hk rfl rfl rfl rfl (FW.f_move hk (FW.holds_nil _) rfl) ?_; clear hk; intro a w hk
  obtain ⟨hc1, h⟩ := FW.chk h
  refine FW.lfun (y := FW.elA xd0_0 1 v1) hk rfl rfl rfl rfl (FW.f_idxOwn (f := c_str) (l := v0.sure) hk (FW.holds_nil _) (j := 1) rfl rfl (by first | rfl | simp only [List.length_set]) rfl Go.Proofs.Tryz.underlying72 (by kernel_rfl) hc1) ?_; clear hk; intro a w hk
  refine FW.lfun (y := .lit (.string (FW.B (List.getD v0.sure (Int.toNat v1) default)))) hk rfl rfl rfl rfl (FW.f_loadOwn1 (f := c_str) (l := v0.sure) hk (FW.holds_nil _) (j := 1) rfl rfl hc1 rfl Go.Proofs.Tryz.underlying9 rfl) ?_; clear hk; intro a w hk
  refine FW.lfun (y := .lit (.string (FW.B (List.getD v0.sure (Int.toNat v1) default)))) hk rfl rfl rfl rfl (FW.f_assign hk (FW.holds_nil _) rfl) ?_; clear hk; intro a w hk
  refine FW.lfun (y := .lit (.int .i64 0)) hk rfl rfl rfl rfl (FW.f_assign hk (FW.holds_nil _) rfl) ?_; clear hk; intro a w hk
  refine FW.lend (hK11 _ _ ?_); clear hK11 K'
  refine wp_ret ?_
  (repeat first | refine FW.then_ret ?_ | refine FW.block_ret ?_)
  obtain rfl := Option.some.inj h
  replace hk := FW.S.keep (I1 := [FW.blk b0 75 ([.lit (.slice xd0_0 (List.length v0.sure) xc0_0), .lit (.map (some xr0_1)), .lit (.int .i64 v0.steps), .lit (.slice xd0_3 (List.length v0.falls) xc0_3), .lit (.bool v0.off)]), FW.orow xd0_0 xc0_0 9 1 c_str v0.sure, FW.mapI (.int .i64) (Value.int .i64) FW.evS xr0_1 v0.cache, FW.orow xd0_3 xc0_3 52 3 ApiFall.cells v0.falls]) (I2 := []) (js := [3, 3, 3, 3]) hk rfl
  exact FW.fretH2 hk rfl (FW.rtmp hk rfl) (FW.rtmp hk rfl) ⟨rfl, rfl⟩
theorem dev_Dev_step_1.ok  (v0 : ApiFall) (v1 : OVarPDevDev) (v1_0 : ODevDev) (r : Bool) (h : dev_Dev_step_1.f v0 v1 v1_0 = some r) :
    ∀ (b1 : Nat) (b1_0 : Nat) (xd1_0_0 : Option Addr) (xc1_0_0 : Nat) (xr1_0_1 : Nat) (xd1_0_3 : Option Addr) (xc1_0_3 : Nat), FW.OkH Go.Proofs.Tryz.prog 99 [.agg (ApiFall.cells v0), .lit (.pointer (some ⟨b1, 0, none⟩))] ((OVarPDevDev.items b1 b1_0 v1) ++ (ODevDev.items b1_0 xd1_0_0 xc1_0_0 xr1_0_1 xd1_0_3 xc1_0_3 v1_0)) (fun y I => y = .lit (.bool r) ∧ I = (OVarPDevDev.items b1 b1_0 v1) ++ (ODevDev.items b1_0 xd1_0_0 xc1_0_0 xr1_0_1 xd1_0_3 xc1_0_3 v1_0)) := by
  intro b1 b1_0 xd1_0_0 xc1_0_0 xr1_0_1 xd1_0_3 xc1_0_3
  refine FW.enterH (xs := [.agg (ApiFall.cells v0), .lit (.pointer (some ⟨b1, 0, none⟩))]) Go.Proofs.Tryz.func99 rfl Go.Proofs.Tryz.ntmps99 rfl ?_
  intro M w0 a hk
  replace hk : FW.S M w0 a w0.toWorld 11 [FW.blk b1 24 ([.lit (.pointer (some ⟨b1_0, 0, none⟩))]), FW.blk b1_0 75 ([.lit (.slice xd1_0_0 (List.length v1_0.sure) xc1_0_0), .lit (.map (some xr1_0_1)), .lit (.int .i64 v1_0.steps), .lit (.slice xd1_0_3 (List.length v1_0.falls) xc1_0_3), .lit (.bool v1_0.off)]), FW.orow xd1_0_0 xc1_0_0 9 1 c_str v1_0.sure, FW.mapI (.int .i64) (Value.int .i64) FW.evS xr1_0_1 v1_0.cache, FW.orow xd1_0_3 xc1_0_3 52 3 ApiFall.cells v1_0.falls] [(0, [], .agg ((ApiFall.cells v0))), (1, [], .lit (.pointer (some ⟨b1, 0, none⟩)))] := hk
  unfold dev_Dev_step_1.f at h
  refine FW.wreg ?_; intro K' hK1
  refine FW.l_box (cs := (ApiFall.cells v0)) hk rfl rfl rfl rfl rfl ?_; clear hk; intro bx1 a w hk
  refine FW.lfun (y := .lit (.bool false)) hk rfl rfl rfl rfl (FW.f_assign hk (FW.holds_nil _) rfl) ?_; clear hk; intro a w hk
  refine FW.lend (hK1 _ _ ?_); clear hK1 K'
  refine FW.wdraw (by kernel_rfl) (by kernel_rfl) hk ?_; clear hk
  refine FW.dfun (y := .lit (.pointer (some ⟨bx1, 0, none⟩))) rfl rfl rfl rfl (fun a w hk => FW.f_fieldPtr hk (FW.holds_nil _) rfl Go.Proofs.Tryz.underlying52 rfl (by kernel_rfl) rfl) ?_
  refine FW.dfun (y := .lit (.int .i64 v0.At)) rfl rfl rfl rfl (fun a w hk => FW.f_loadBlk1 hk (FW.holds_nil _) (j := 0) rfl rfl Go.Proofs.Tryz.underlying3 rfl rfl) ?_
  refine FW.dfun (y := .lit (.pointer (some ⟨b1_0, 0, none⟩))) rfl rfl rfl rfl (fun a w hk => FW.f_loadBlk1 hk (FW.holds_nil _) (j := 1) rfl rfl Go.Proofs.Tryz.underlying24 rfl rfl) ?_
  refine FW.dfun (y := .lit (.pointer (some ⟨b1_0, 0, none⟩))) rfl rfl rfl rfl (fun a w hk => (FW.f_pure (FW.p_nilCheck hk.kn (FW.holds_nil _) rfl))) ?_
  refine FW.dfun (y := .lit (.pointer (some ⟨b1_0, 2, none⟩))) rfl rfl rfl rfl (fun a w hk => FW.f_fieldPtr hk (FW.holds_nil _) rfl Go.Proofs.Tryz.underlying75 rfl (by kernel_rfl) rfl) ?_
  refine FW.dfun (y := .lit (.int .i64 v1_0.steps)) rfl rfl rfl rfl (fun a w hk => FW.f_loadBlk1 hk (FW.holds_nil _) (j := 2) rfl rfl Go.Proofs.Tryz.underlying3 rfl rfl) ?_
  refine FW.dfun (y := .lit (.bool (decide (v0.At = v1_0.steps)))) rfl rfl rfl rfl (fun a w hk => (FW.f_pure (FW.p_eql hk.kn (FW.holds_nil _) rfl rfl))) ?_
  refine FW.dfun (y := .lit (.bool (decide (v0.At = v1_0.steps)))) rfl rfl rfl rfl (fun a w hk => FW.f_assign hk (FW.holds_nil _) rfl) ?_
  refine FW.dend ?_; intro a w hk
  refine wp_ret ?_
  (repeat first | refine FW.then_ret ?_ | refine FW.block_ret ?_)
  obtain rfl := Option.some.inj h
  replace hk := FW.S.keep (I1 := [FW.blk b1 24 ([.lit (.pointer (some ⟨b1_0, 0, none⟩))]), FW.blk b1_0 75 ([.lit (.slice xd1_0_0 (List.length v1_0.sure) xc1_0_0), .lit (.map (some xr1_0_1)), .lit (.int .i64 v1_0.steps), .lit (.slice xd1_0_3 (List.length v1_0.falls) xc1_0_3), .lit (.bool v1_0.off)]), FW.orow xd1_0_0 xc1_0_0 9 1 c_str v1_0.sure, FW.mapI (.int .i64) (Value.int .i64) FW.evS xr1_0_1 v1_0.cache, FW.orow xd1_0_3 xc1_0_3 52 3 ApiFall.cells v1_0.falls]) (I2 := [FW.blk bx1 52 ((ApiFall.cells v0))]) (js := [5, 5, 5, 5, 5]) hk rfl
  exact FW.fretH1 hk rfl (FW.rtmp hk rfl) ⟨rfl, rfl⟩
theorem slices_IndexFunc_api_Fall_api_Fall_of_dev_Dev_step_1.ok (K : Nat) (v1c0 : OVarPDevDev) (v1c0_0 : ODevDev) (r : Int) (h : slices_IndexFunc_api_Fall_api_Fall_of_dev_Dev_step_1.f K v1c0 v1c0_0 = some r) :
    ∀ (b1c0 : Nat) (b1c0_0 : Nat) (xd1c0_0_0 : Option Addr) (xc1c0_0_0 : Nat) (xr1c0_0_1 : Nat) (xd1c0_0_3 : Option Addr) (xc1c0_0_3 : Nat), FW.OkH Go.Proofs.Tryz.prog 98 [.lit (.slice xd1c0_0_3 (List.length v1c0_0.falls) xc1c0_0_3), .lit (.func (.func 99) #[] #[.pointer (some ⟨b1c0, 0, none⟩)])] ((OVarPDevDev.items b1c0 b1c0_0 v1c0) ++ (ODevDev.items b1c0_0 xd1c0_0_0 xc1c0_0_0 xr1c0_0_1 xd1c0_0_3 xc1c0_0_3 v1c0_0)) (fun y I => y = .lit (.int .i64 r) ∧ I = (OVarPDevDev.items b1c0 b1c0_0 v1c0) ++ (ODevDev.items b1c0_0 xd1c0_0_0 xc1c0_0_0 xr1c0_0_1 xd1c0_0_3 xc1c0_0_3 v1c0_0)) := by
  intro b1c0 b1c0_0 xd1c0_0_0 xc1c0_0_0 xr1c0_0_1 xd1c0_0_3 xc1c0_0_3
  refine FW.enterH (xs := [.lit (.slice xd1c0_0_3 (List.length v1c0_0.falls) xc1c0_0_3), .lit (.func (.func 99) #[] #[.pointer (some ⟨b1c0, 0, none⟩)])]) Go.Proofs.Tryz.func98 rfl Go.Proofs.Tryz.ntmps98 rfl ?_
  intro M w0 a hk
  replace hk : FW.S M w0 a w0.toWorld 19 [FW.blk b1c0 24 ([.lit (.pointer (some ⟨b1c0_0, 0, none⟩))]), FW.blk b1c0_0 75 ([.lit (.slice xd1c0_0_0 (List.length v1c0_0.sure) xc1c0_0_0), .lit (.map (some xr1c0_0_1)), .lit (.int .i64 v1c0_0.steps), .lit (.slice xd1c0_0_3 (List.length v1c0_0.falls) xc1c0_0_3), .lit (.bool v1c0_0.off)]), FW.orow xd1c0_0_0 xc1c0_0_0 9 1 c_str v1c0_0.sure, FW.mapI (.int .i64) (Value.int .i64) FW.evS xr1c0_0_1 v1c0_0.cache, FW.orow xd1c0_0_3 xc1c0_0_3 52 3 ApiFall.cells v1c0_0.falls] [(0, [], .lit (.slice xd1c0_0_3 (List.length v1c0_0.falls) xc1c0_0_3)), (1, [], .lit (.func (.func 99) #[] #[.pointer (some ⟨b1c0, 0, none⟩)]))] := hk
  unfold slices_IndexFunc_api_Fall_api_Fall_of_dev_Dev_step_1.f at h
  refine FW.wreg ?_; intro K' hK1
  refine FW.lfun (y := .lit (.int .i64 0)) hk rfl rfl rfl rfl (FW.f_assign hk (FW.holds_nil _) rfl) ?_; clear hk; intro a w hk
  refine FW.lend (hK1 _ _ ?_); clear hK1 K'
  refine FW.wseq ?_; intro K' hK2
  refine FW.wreg ?_; intro K' hK3
  refine FW.lfun (y := .lit (.slice xd1c0_0_3 (List.length v1c0_0.falls) xc1c0_0_3)) hk rfl rfl rfl rfl (FW.f_move hk (FW.holds_nil _) rfl) ?_; clear hk; intro a w hk
  refine FW.lfun (y := .lit (.int .i64 (List.length v1c0_0.falls : Int))) hk rfl rfl rfl rfl ((FW.f_pure (FW.p_len Go.Proofs.Tryz.underlying50 hk.kn (FW.holds_nil _) rfl))) ?_; clear hk; intro a w hk
  refine FW.lfun (y := .lit (.int .i64 0)) hk rfl rfl rfl rfl (FW.f_move hk (FW.holds_nil _) rfl) ?_; clear hk; intro a w hk
  refine FW.lend (hK3 _ _ ?_); clear hK3 K'
  refine wp_block ?_
  refine FW.wloop (T := Nat × Int × Int) (fun x a w => match x with | (kl1, v7, v8) => FW.S M w0 a w 19 [FW.blk b1c0 24 ([.lit (.pointer (some ⟨b1c0_0, 0, none⟩))]), FW.blk b1c0_0 75 ([.lit (.slice xd1c0_0_0 (List.length v1c0_0.sure) xc1c0_0_0), .lit (.map (some xr1c0_0_1)), .lit (.int .i64 v1c0_0.steps), .lit (.slice xd1c0_0_3 (List.length v1c0_0.falls) xc1c0_0_3), .lit (.bool v1c0_0.off)]), FW.orow xd1c0_0_0 xc1c0_0_0 9 1 c_str v1c0_0.sure, FW.mapI (.int .i64) (Value.int .i64) FW.evS xr1c0_0_1 v1c0_0.cache, FW.orow xd1c0_0_3 xc1c0_0_3 52 3 ApiFall.cells v1c0_0.falls] [(0, [], .lit (.slice xd1c0_0_3 (List.length v1c0_0.falls) xc1c0_0_3)), (1, [], .lit (.func (.func 99) #[] #[.pointer (some ⟨b1c0, 0, none⟩)])), (7, [], .lit (.int .i64 v7)), (8, [], .lit (.int .i64 v8))] ∧ slices_IndexFunc_api_Fall_api_Fall_of_dev_Dev_step_1.l1 K v1c0_0 kl1 v7 v8 = some r) (fun x => x.1) (K, (List.length v1c0_0.falls : Int), 0) ⟨hk.sub ⟨rfl, rfl, rfl, rfl, trivial⟩, h⟩ ?_
  clear hk h
  rintro ⟨kl1, v7, v8⟩ a w ⟨hk, h⟩ K' hK4
  cases kl1 with
  | zero => simp [slices_IndexFunc_api_Fall_api_Fall_of_dev_Dev_step_1.l1] at h
  | succ kl1 =>
  rw [slices_IndexFunc_api_Fall_api_Fall_of_dev_Dev_step_1.l1.eq_2] at h
  refine FW.wreg ?_; intro K' hK5
  refine FW.lfun (y := .lit (.bool (decide (v8 < v7)))) hk rfl rfl rfl rfl ((FW.f_pure (FW.p_lss hk.kn (FW.holds_nil _) rfl rfl))) ?_; clear hk; intro a w hk
  refine FW.lend (hK5 _ _ ?_); clear hK5 K'
  refine FW.wseq ?_; intro K' hK6
  refine FW.wcondF (b := (decide (v8 < v7))) hk h rfl (fun h hb => ?_) (fun h hb => ?_)
  · skip
    refine wp_skip ?_
    (repeat first | refine FW.then_normal ?_ | refine FW.block_normal ?_); refine hK6 _ _ ?_
    refine FW.wseq ?_; intro K' hK7
    refine wp_block ?_
    refine FW.wreg ?_; intro K' hK8
    refine FW.lfun (y := .lit (.int .i64 v8)) hk rfl rfl rfl rfl (FW.f_move hk (FW.holds_nil _) rfl) ?_; clear hk; intro a w hk
    refine FW.lfun (y := .lit (.int .i64 v8)) hk rfl rfl rfl rfl (FW.f_assign hk (FW.holds_nil _) rfl) ?_; clear hk; intro a w hk
    refine FW.lend (hK8 _ _ ?_); clear hK8 K'
    refine FW.wreg ?_; intro K' hK9
    refine FW.lfun (y := .lit (.func (.func 99) #[] #[.pointer (some ⟨b1c0, 0, none⟩)])) hk rfl rfl rfl rfl (FW.f_move hk (FW.holds_nil _) rfl) ?_; clear hk; intro a w hk
    refine FW.lfun (y := .lit (.slice xd1c0_0_3 (List.length v1c0_0.falls) xc1c0_0_3)) hk rfl rfl rfl rfl (FW.f_move hk (FW.holds_nil _) rfl) ?_; clear hk; intro a w hk
    refine FW.lfun (y := .lit (.int .i64 v8)) hk rfl rfl rfl rfl (FW.f_move hk (FW.holds_nil _) rfl) ?_; clear hk; intro a w hk
    obtain ⟨hc1, h⟩ := FW.chk h
    refine FW.lfun (y := FW.elA xd1c0_0_3 3 v8) hk rfl rfl rfl rfl (FW.f_idxOwn (f := ApiFall.cells) (l := v1c0_0.falls) hk (FW.holds_nil _) (j := 4) rfl rfl (by first | rfl | simp only [List.length_set]) rfl Go.Proofs.Tryz.underlying50 (by kernel_rfl) hc1) ?_; clear hk; intro a w hk
    refine FW.lfun (y := .agg ((ApiFall.cells (List.getD v1c0_0.falls (Int.toNat v8) default)))) hk rfl rfl rfl rfl (FW.f_loadOwn (f := ApiFall.cells) (l := v1c0_0.falls) hk (FW.holds_nil _) (j := 4) rfl rfl hc1 Go.Proofs.Tryz.underlying52 rfl (by kernel_rfl)) ?_; clear hk; intro a w hk
    obtain ⟨t1, hr_t1, h⟩ := FW.bnd h
    refine FW.l_callHC (I1 := (OVarPDevDev.items b1c0 b1c0_0 (⟨⟩ : OVarPDevDev)) ++ (ODevDev.items b1c0_0 xd1c0_0_0 xc1c0_0_0 xr1c0_0_1 xd1c0_0_3 xc1c0_0_3 v1c0_0)) (I2 := []) (js := [4, 4, 4, 4, 4]) hk rfl rfl rfl rfl rfl Go.Proofs.Tryz.func99 rfl (by kernel_rfl) (dev_Dev_step_1.ok (List.getD v1c0_0.falls (Int.toNat v8) default) (⟨⟩ : OVarPDevDev) v1c0_0 _ hr_t1 b1c0 b1c0_0 xd1c0_0_0 xc1c0_0_0 xr1c0_0_1 xd1c0_0_3 xc1c0_0_3) ?_; clear hk
    rintro _ _ ⟨rfl, rfl⟩ a w hk
    refine FW.lend (hK9 _ _ ?_); clear hK9 K'
    refine FW.wcondF (b := t1) hk h rfl (fun h hb => ?_) (fun h hb => ?_)
    · skip
      refine FW.wreg ?_; intro K' hK10
      refine FW.lfun (y := .lit (.int .i64 v8)) hk rfl rfl rfl rfl (FW.f_move hk (FW.holds_nil _) rfl) ?_; clear hk; intro a w hk
      refine FW.lfun (y := .lit (.int .i64 v8)) hk rfl rfl rfl rfl (FW.f_assign hk (FW.holds_nil _) rfl) ?_; clear hk; intro a w hk
      refine FW.lend (hK10 _ _ ?_); clear hK10 K'
      refine wp_ret ?_
      (repeat first | refine FW.then_ret ?_ | refine FW.block_ret ?_)
      obtain rfl := Option.some.inj h
      replace hk := FW.S.keep (I1 := [FW.blk b1c0 24 ([.lit (.pointer (some ⟨b1c0_0, 0, none⟩))]), FW.blk b1c0_0 75 ([.lit (.slice xd1c0_0_0 (List.length v1c0_0.sure) xc1c0_0_0), .lit (.map (some xr1c0_0_1)), .lit (.int .i64 v1c0_0.steps), .lit (.slice xd1c0_0_3 (List.length v1c0_0.falls) xc1c0_0_3), .lit (.bool v1c0_0.off)]), FW.orow xd1c0_0_0 xc1c0_0_0 9 1 c_str v1c0_0.sure, FW.mapI (.int .i64) (Value.int .i64) FW.evS xr1c0_0_1 v1c0_0.cache, FW.orow xd1c0_0_3 xc1c0_0_3 52 3 ApiFall.cells v1c0_0.falls]) (I2 := []) (js := [4, 4, 4, 4, 4]) hk rfl
      exact FW.fretH1 hk rfl (FW.rtmp hk rfl) ⟨rfl, rfl⟩
    refine wp_skip ?_
    (repeat first | refine FW.then_normal ?_ | refine FW.block_normal ?_); refine hK7 _ _ ?_
    refine FW.wreg1 ?_
    refine FW.lfun (y := .lit (.int .i64 (IntKind.wrap .i64 (v8 + 1)))) hk rfl rfl rfl rfl ((FW.f_pure (FW.p_add hk.kn (FW.holds_nil _) rfl rfl))) ?_; clear hk; intro a w hk
    refine FW.lfun (y := .lit (.int .i64 (IntKind.wrap .i64 (v8 + 1)))) hk rfl rfl rfl rfl (FW.f_move hk (FW.holds_nil _) rfl) ?_; clear hk; intro a w hk
    refine wpList_nil ?_
    (repeat first | refine FW.then_normal ?_ | refine FW.block_normal ?_); exact hK4 (kl1, v7, (IntKind.wrap .i64 (v8 + 1))) _ _ (Nat.lt_succ_self _) ⟨hk.sub ⟨rfl, rfl, rfl, rfl, trivial⟩, h⟩
  refine wp_exit ?_; (repeat first | refine FW.then_exit ?_ | refine FW.block_exit_ne rfl ?_); refine FW.block_exit ?_
  (repeat first | refine FW.then_normal ?_ | refine FW.block_normal ?_); refine hK2 _ _ ?_
  refine FW.wreg ?_; intro K' hK12
  refine FW.lfun (y := .lit (.int .i64 (-1))) hk rfl rfl rfl rfl (FW.f_assign hk (FW.holds_nil _) rfl) ?_; clear hk; intro a w hk
  refine FW.lend (hK12 _ _ ?_); clear hK12 K'
  refine wp_ret ?_
  (repeat first | refine FW.then_ret ?_ | refine FW.block_ret ?_)
  obtain rfl := Option.some.inj h
  replace hk := FW.S.keep (I1 := [FW.blk b1c0 24 ([.lit (.pointer (some ⟨b1c0_0, 0, none⟩))]), FW.blk b1c0_0 75 ([.lit (.slice xd1c0_0_0 (List.length v1c0_0.sure) xc1c0_0_0), .lit (.map (some xr1c0_0_1)), .lit (.int .i64 v1c0_0.steps), .lit (.slice xd1c0_0_3 (List.length v1c0_0.falls) xc1c0_0_3), .lit (.bool v1c0_0.off)]), FW.orow xd1c0_0_0 xc1c0_0_0 9 1 c_str v1c0_0.sure, FW.mapI (.int .i64) (Value.int .i64) FW.evS xr1c0_0_1 v1c0_0.cache, FW.orow xd1c0_0_3 xc1c0_0_3 52 3 ApiFall.cells v1c0_0.falls]) (I2 := []) (js := [4, 4, 4, 4, 4]) hk rfl
  exact FW.fretH1 hk rfl (FW.rtmp hk rfl) ⟨rfl, rfl⟩
theorem dev_Dev_Crash.ok (K : Nat) (v0 : ODevDev) (v1 : Int) (v2 : Int) (r : ODevDev) (h : dev_Dev_Crash.f K v0 v1 v2 = some r) :
    ∀ (b0 : Nat) (xd0_0 : Option Addr) (xc0_0 : Nat) (xr0_1 : Nat) (xd0_3 : Option Addr) (xc0_3 : Nat), FW.OkH Go.Proofs.Tryz.prog 26 [.lit (.pointer (some ⟨b0, 0, none⟩)), .lit (.int .u64 v1), .lit (.int .i64 v2)] (ODevDev.items b0 xd0_0 xc0_0 xr0_1 xd0_3 xc0_3 v0) (fun y I => ∃ (zxd0_0 : Option Addr) (zxc0_0 : Nat) (zxr0_1 : Nat) (zxd0_3 : Option Addr) (zxc0_3 : Nat), y = .tup [] ∧ I = ODevDev.items b0 zxd0_0 zxc0_0 zxr0_1 zxd0_3 zxc0_3 r) := by
  intro b0 xd0_0 xc0_0 xr0_1 xd0_3 xc0_3
  refine FW.enterH (xs := [.lit (.pointer (some ⟨b0, 0, none⟩)), .lit (.int .u64 v1), .lit (.int .i64 v2)]) Go.Proofs.Tryz.func26 rfl Go.Proofs.Tryz.ntmps26 rfl ?_
  intro M w0 a hk
  replace hk : FW.S M w0 a w0.toWorld 69 [FW.blk b0 75 ([.lit (.slice xd0_0 (List.length v0.sure) xc0_0), .lit (.map (some xr0_1)), .lit (.int .i64 v0.steps), .lit (.slice xd0_3 (List.length v0.falls) xc0_3), .lit (.bool v0.off)]), FW.orow xd0_0 xc0_0 9 1 c_str v0.sure, FW.mapI (.int .i64) (Value.int .i64) FW.evS xr0_1 v0.cache, FW.orow xd0_3 xc0_3 52 3 ApiFall.cells v0.falls] [(0, [], .lit (.pointer (some ⟨b0, 0, none⟩))), (1, [], .lit (.int .u64 v1)), (2, [], .lit (.int .i64 v2))] := hk
  unfold dev_Dev_Crash.f at h
  refine FW.wseq ?_; intro K' hK1
  refine FW.wreg ?_; intro K' hK2
  refine FW.lfun (y := .lit (.pointer (some ⟨b0, 0, none⟩))) hk rfl rfl rfl rfl (FW.f_move hk (FW.holds_nil _) rfl) ?_; clear hk; intro a w hk
  obtain ⟨t1, hr_t1, h⟩ := FW.bnd h
  refine FW.l_callH (I1 := (ODevDev.items b0 xd0_0 xc0_0 xr0_1 xd0_3 xc0_3 v0)) (I2 := []) (js := [3, 3, 3, 3]) hk rfl rfl rfl rfl rfl Go.Proofs.Tryz.func13 rfl (by kernel_rfl) (dev_Dev_Off.ok v0 _ hr_t1 b0 xd0_0 xc0_0 xr0_1 xd0_3 xc0_3) ?_; clear hk
  rintro _ _ ⟨rfl, rfl⟩ a w hk
  refine FW.lend (hK2 _ _ ?_); clear hK2 K'
  refine FW.wcondF (b := t1) hk h rfl (fun h hb => ?_) (fun h hb => ?_)
  · skip
    refine wp_ret ?_
    (repeat first | refine FW.then_ret ?_ | refine FW.block_ret ?_)
    obtain rfl := Option.some.inj h
    replace hk := FW.S.keep (I1 := [FW.blk b0 75 ([.lit (.slice xd0_0 (List.length v0.sure) xc0_0), .lit (.map (some xr0_1)), .lit (.int .i64 v0.steps), .lit (.slice xd0_3 (List.length v0.falls) xc0_3), .lit (.bool v0.off)]), FW.orow xd0_0 xc0_0 9 1 c_str v0.sure, FW.mapI (.int .i64) (Value.int .i64) FW.evS xr0_1 v0.cache, FW.orow xd0_3 xc0_3 52 3 ApiFall.cells v0.falls]) (I2 := []) (js := [3, 3, 3, 3]) hk rfl
    exact FW.fretH0 hk rfl ⟨xd0_0, xc0_0, xr0_1, xd0_3, xc0_3, rfl, rfl⟩
  refine wp_skip ?_
  (repeat first | refine FW.then_normal ?_ | refine FW.block_normal ?_); refine hK1 _ _ ?_
  refine FW.wseq ?_; intro K' hK3
  refine FW.wreg ?_; intro K' hK4
  refine FW.lfun (y := .lit (.pointer (some ⟨b0, 0, none⟩))) hk rfl rfl rfl rfl (FW.f_move hk (FW.holds_nil _) rfl) ?_; clear hk; intro a w hk
  refine FW.lfun (y := .lit (.pointer (some ⟨b0, 0, none⟩))) hk rfl rfl rfl rfl ((FW.f_pure (FW.p_nilCheck hk.kn (FW.holds_nil _) rfl))) ?_; clear hk; intro a w hk
  refine FW.lfun (y := .lit (.pointer (some ⟨b0, 1, none⟩))) hk rfl rfl rfl rfl (FW.f_fieldPtr hk (FW.holds_nil _) rfl Go.Proofs.Tryz.underlying75 rfl (by kernel_rfl) rfl) ?_; clear hk; intro a w hk
  refine FW.lfun (y := .lit (.map (some xr0_1))) hk rfl rfl rfl rfl (FW.f_loadBlk1 hk (FW.holds_nil _) (j := 0) rfl rfl Go.Proofs.Tryz.underlying73 rfl rfl) ?_; clear hk; intro a w hk
  refine FW.l_keysI hk rfl rfl rfl ?_; clear hk; intro bx1 a w hk
  obtain ⟨hc1, h⟩ := FW.chk h
  refine FW.l_sortedI (ev := FW.evS) (m := v0.cache) (R := r_c_i64) (fun _ => rfl) hk rfl rfl (j := 3) (i := 0) rfl rfl rfl hc1 ?_; clear hk; intro a w hk
  refine FW.lfun (y := .lit (.int .i64 (List.length (FW.sortK v0.cache) : Int))) hk rfl rfl rfl rfl (FW.f_len (R := r_c_i64) (f := c_i64) (l := (FW.sortK v0.cache)) r_c_i64_eq Go.Proofs.Tryz.underlying86 hk (FW.holds_nil _) rfl) ?_; clear hk; intro a w hk
  refine FW.lfun (y := .lit (.int .i64 0)) hk rfl rfl rfl rfl (FW.f_move hk (FW.holds_nil _) rfl) ?_; clear hk; intro a w hk
  refine FW.lend (hK4 _ _ ?_); clear hK4 K'
  refine wp_block ?_
  refine FW.wloop (T := Nat × Int × Bool × List (List UInt8) × Int × Int × List Int × Int × Int × Option Addr × Nat) (fun x a w => match x with | (kl1, y1_2, y1_4, l2, v1, v2, v17, v18, v19, xd2, xc2) => FW.S M w0 a w 69 [FW.blk b0 75 ([.lit (.slice xd2 (List.length l2) xc2), .lit (.map (some xr0_1)), .lit (.int .i64 y1_2), .lit (.slice xd0_3 (List.length v0.falls) xc0_3), .lit (.bool y1_4)]), FW.orow xd2 xc2 9 1 c_str l2, FW.mapI (.int .i64) (Value.int .i64) FW.evS xr0_1 v0.cache, FW.orow xd0_3 xc0_3 52 3 ApiFall.cells v0.falls] [(0, [], .lit (.pointer (some ⟨b0, 0, none⟩))), (1, [], .lit (.int .u64 v1)), (2, [], .lit (.int .i64 v2)), (17, [], .row (r_c_i64 v17)), (18, [], .lit (.int .i64 v18)), (19, [], .lit (.int .i64 v19))] ∧ dev_Dev_Crash.l1 K v0 kl1 y1_2 y1_4 l2 v1 v2 v17 v18 v19 = some r) (fun x => x.1) (K, v0.steps, v0.off, v0.sure, v1, v2, (FW.sortK v0.cache), (List.length (FW.sortK v0.cache) : Int), 0, xd0_0, xc0_0) ⟨(hk.drop 0).sub ⟨rfl, rfl, rfl, rfl, rfl, rfl, trivial⟩, h⟩ ?_
  clear hk h
  rintro ⟨kl1, y1_2, y1_4, l2, v1, v2, v17, v18, v19, xd2, xc2⟩ a w ⟨hk, h⟩ K' hK5
  cases kl1 with
  | zero => simp [dev_Dev_Crash.l1] at h
  | succ kl1 =>
  rw [dev_Dev_Crash.l1.eq_2] at h
  refine FW.wreg ?_; intro K' hK6
  refine FW.lfun (y := .lit (.bool (decide (v19 < v18)))) hk rfl rfl rfl rfl ((FW.f_pure (FW.p_lss hk.kn (FW.holds_nil _) rfl rfl))) ?_; clear hk; intro a w hk
  refine FW.lend (hK6 _ _ ?_); clear hK6 K'
  refine FW.wseq ?_; intro K' hK7
  refine FW.wcondF (b := (decide (v19 < v18))) hk h rfl (fun h hb => ?_) (fun h hb => ?_)
  · skip
    refine wp_skip ?_
    (repeat first | refine FW.then_normal ?_ | refine FW.block_normal ?_); refine hK7 _ _ ?_
    refine FW.wseq ?_; intro K' hK8
    refine wp_block ?_
    refine FW.wreg ?_; intro K' hK9
    refine FW.lfun (y := .lit (.int .i64 v19)) hk rfl rfl rfl rfl (FW.f_move hk (FW.holds_nil _) rfl) ?_; clear hk; intro a w hk
    obtain ⟨hc2, h⟩ := FW.chk h
    refine FW.lfun (y := .ref (c_i64 (List.getD v17 (Int.toNat v19) default))) hk rfl rfl rfl rfl (FW.f_indexAddr (R := r_c_i64) (f := c_i64) (l := v17) (sz := 1) r_c_i64_eq (fun _ => rfl) hk (FW.holds_nil _) rfl rfl Go.Proofs.Tryz.underlying86 (by kernel_rfl) hc2) ?_; clear hk; intro a w hk
    refine FW.lfun (y := .lit (.int .i64 (List.getD v17 (Int.toNat v19) default))) hk rfl rfl rfl rfl (FW.f_load1 hk (FW.holds_nil _) rfl rfl Go.Proofs.Tryz.underlying3 rfl) ?_; clear hk; intro a w hk
    refine FW.lfun (y := .lit (.int .i64 v19)) hk rfl rfl rfl rfl (FW.f_assign hk (FW.holds_nil _) rfl) ?_; clear hk; intro a w hk
    refine FW.lfun (y := .lit (.int .i64 (List.getD v17 (Int.toNat v19) default))) hk rfl rfl rfl rfl (FW.f_assign hk (FW.holds_nil _) rfl) ?_; clear hk; intro a w hk
    refine FW.lend (hK9 _ _ ?_); clear hK9 K'
    refine FW.wreg ?_; intro K' hK10
    refine FW.lfun (y := .lit (.pointer (some ⟨b0, 0, none⟩))) hk rfl rfl rfl rfl (FW.f_move hk (FW.holds_nil _) rfl) ?_; clear hk; intro a w hk
    refine FW.lfun (y := .lit (.pointer (some ⟨b0, 0, none⟩))) hk rfl rfl rfl rfl ((FW.f_pure (FW.p_nilCheck hk.kn (FW.holds_nil _) rfl))) ?_; clear hk; intro a w hk
    refine FW.lfun (y := .lit (.pointer (some ⟨b0, 1, none⟩))) hk rfl rfl rfl rfl (FW.f_fieldPtr hk (FW.holds_nil _) rfl Go.Proofs.Tryz.underlying75 rfl (by kernel_rfl) rfl) ?_; clear hk; intro a w hk
    refine FW.lfun (y := .lit (.map (some xr0_1))) hk rfl rfl rfl rfl (FW.f_loadBlk1 hk (FW.holds_nil _) (j := 0) rfl rfl Go.Proofs.Tryz.underlying73 rfl rfl) ?_; clear hk; intro a w hk
    refine FW.lfun (y := .lit (.int .i64 (List.getD v17 (Int.toNat v19) default))) hk rfl rfl rfl rfl (FW.f_move hk (FW.holds_nil _) rfl) ?_; clear hk; intro a w hk
    refine FW.lfun (y := .lit (.string (FW.B ((FW.mget v0.cache (List.getD v17 (Int.toNat v19) default)).getD ([] : List UInt8))))) hk rfl rfl rfl rfl (FW.f_lookup1 (z := ([] : List UInt8)) (ev := FW.evS) hk (FW.holds_nil _) (j := 2) rfl rfl rfl Go.Proofs.Tryz.underlying73 Go.Proofs.Tryz.underlying3 (by kernel_rfl)) ?_; clear hk; intro a w hk
    refine FW.lfun (y := .lit (.string (FW.B ((FW.mget v0.cache (List.getD v17 (Int.toNat v19) default)).getD ([] : List UInt8))))) hk rfl rfl rfl rfl (FW.f_assign hk (FW.holds_nil _) rfl) ?_; clear hk; intro a w hk
    refine FW.lend (hK10 _ _ ?_); clear hK10 K'
    refine FW.wseqJ (fun a w => ∃ (v1 : Int) (v2 : Int) (v7 : Int) (v8 : List UInt8) (v17 : List Int) (v18 : Int) (v19 : Int), FW.S M w0 a w 69 [FW.blk b0 75 ([.lit (.slice xd2 (List.length l2) xc2), .lit (.map (some xr0_1)), .lit (.int .i64 y1_2), .lit (.slice xd0_3 (List.length v0.falls) xc0_3), .lit (.bool y1_4)]), FW.orow xd2 xc2 9 1 c_str l2, FW.mapI (.int .i64) (Value.int .i64) FW.evS xr0_1 v0.cache, FW.orow xd0_3 xc0_3 52 3 ApiFall.cells v0.falls] [(0, [], .lit (.pointer (some ⟨b0, 0, none⟩))), (1, [], .lit (.int .u64 v1)), (2, [], .lit (.int .i64 v2)), (7, [], .lit (.int .i64 v7)), (8, [], .lit (.string (FW.B v8))), (17, [], .row (r_c_i64 v17)), (18, [], .lit (.int .i64 v18)), (19, [], .lit (.int .i64 v19))] ∧ dev_Dev_Crash.j1 (dev_Dev_Crash.l1 K v0 kl1) K l2 v0 y1_2 y1_4 v1 v2 v7 v8 v17 v18 v19 = some r) ?_ ?_
    · clear hk h
      rintro a w ⟨v1, v2, v7, v8, v17, v18, v19, hk, h⟩
      unfold dev_Dev_Crash.j1 at h
      refine FW.wreg1 ?_
      refine FW.lfun (y := .lit (.pointer (some ⟨b0, 0, none⟩))) hk rfl rfl rfl rfl (FW.f_move hk (FW.holds_nil _) rfl) ?_; clear hk; intro a w hk
      refine FW.lfun (y := .lit (.pointer (some ⟨b0, 0, none⟩))) hk rfl rfl rfl rfl ((FW.f_pure (FW.p_nilCheck hk.kn (FW.holds_nil _) rfl))) ?_; clear hk; intro a w hk
      refine FW.lfun (y := .lit (.pointer (some ⟨b0, 0, none⟩))) hk rfl rfl rfl rfl (FW.f_fieldPtr hk (FW.holds_nil _) rfl Go.Proofs.Tryz.underlying75 rfl (by kernel_rfl) rfl) ?_; clear hk; intro a w hk
      refine FW.lfun (y := .lit (.slice xd2 (List.length l2) xc2)) hk rfl rfl rfl rfl (FW.f_loadBlk1 hk (FW.holds_nil _) (j := 0) rfl rfl Go.Proofs.Tryz.underlying72 rfl rfl) ?_; clear hk; intro a w hk
      refine FW.lfun (y := .lit (.int .i64 v7)) hk rfl rfl rfl rfl (FW.f_move hk (FW.holds_nil _) rfl) ?_; clear hk; intro a w hk
      refine FW.lfun (y := .lit (.string (FW.B v8))) hk rfl rfl rfl rfl (FW.f_move hk (FW.holds_nil _) rfl) ?_; clear hk; intro a w hk
      obtain ⟨hc3, h⟩ := FW.chk h
      refine FW.lfun (y := FW.elA xd2 1 v7) hk rfl rfl rfl rfl (FW.f_idxOwn (f := c_str) (l := l2) hk (FW.holds_nil _) (j := 1) rfl rfl (by first | rfl | simp only [List.length_set]) rfl Go.Proofs.Tryz.underlying72 (by kernel_rfl) hc3) ?_; clear hk; intro a w hk
      refine FW.l_storeOwn1 (f := c_str) (l := l2) (v := v8) (I' := [FW.blk b0 75 ([.lit (.slice xd2 (List.length l2) xc2), .lit (.map (some xr0_1)), .lit (.int .i64 y1_2), .lit (.slice xd0_3 (List.length v0.falls) xc0_3), .lit (.bool y1_4)]), FW.orow xd2 xc2 9 1 c_str (List.set l2 (Int.toNat v7) v8), FW.mapI (.int .i64) (Value.int .i64) FW.evS xr0_1 v0.cache, FW.orow xd0_3 xc0_3 52 3 ApiFall.cells v0.falls]) (j := 1) hk rfl rfl hc3 rfl rfl rfl rfl (by kernel_rfl) rfl ?_; clear hk; intro w hk
      refine wpList_nil ?_
      (repeat first | refine FW.then_normal ?_ | refine FW.block_normal ?_); refine hK8 _ _ ?_
      refine FW.wreg1 ?_
      refine FW.lfun (y := .lit (.int .i64 (IntKind.wrap .i64 (v19 + 1)))) hk rfl rfl rfl rfl ((FW.f_pure (FW.p_add hk.kn (FW.holds_nil _) rfl rfl))) ?_; clear hk; intro a w hk
      refine FW.lfun (y := .lit (.int .i64 (IntKind.wrap .i64 (v19 + 1)))) hk rfl rfl rfl rfl (FW.f_move hk (FW.holds_nil _) rfl) ?_; clear hk; intro a w hk
      refine wpList_nil ?_
      replace hk := FW.S.cast (I' := [FW.blk b0 75 ([.lit (.slice xd2 (List.length (List.set l2 (Int.toNat v7) v8)) xc2), .lit (.map (some xr0_1)), .lit (.int .i64 y1_2), .lit (.slice xd0_3 (List.length v0.falls) xc0_3), .lit (.bool y1_4)]), FW.orow xd2 xc2 9 1 c_str (List.set l2 (Int.toNat v7) v8), FW.mapI (.int .i64) (Value.int .i64) FW.evS xr0_1 v0.cache, FW.orow xd0_3 xc0_3 52 3 ApiFall.cells v0.falls]) hk (by first | rfl | simp only [List.length_set]) rfl
      (repeat first | refine FW.then_normal ?_ | refine FW.block_normal ?_); exact hK5 (kl1, y1_2, y1_4, (List.set l2 (Int.toNat v7) v8), v1, v2, v17, v18, (IntKind.wrap .i64 (v19 + 1)), xd2, xc2) _ _ (Nat.lt_succ_self _) ⟨hk.sub ⟨rfl, rfl, rfl, rfl, rfl, rfl, trivial⟩, h⟩
    · intro K' hK11
      refine FW.wreg ?_; intro K' hK14
      refine FW.lfun (y := .lit (.int .u64 v1)) hk rfl rfl rfl rfl (FW.f_move hk (FW.holds_nil _) rfl) ?_; clear hk; intro a w hk
      refine FW.lfun (y := .lit (.int .i64 v19)) hk rfl rfl rfl rfl (FW.f_move hk (FW.holds_nil _) rfl) ?_; clear hk; intro a w hk
      refine FW.lfun (y := .lit (.int .i64 (if 63 < v19 then 63 else v19))) hk rfl rfl rfl rfl ((FW.f_pure (FW.p_min hk.kn (FW.holds_nil _) rfl rfl))) ?_; clear hk; intro a w hk
      obtain ⟨hc4, h⟩ := FW.chk h
      refine FW.lfun (y := .lit (.int .u64 (FW.shrI .u64 v1 (if 63 < v19 then 63 else v19)))) hk rfl rfl rfl rfl ((FW.f_pure (FW.p_shr hk.kn (FW.holds_nil _) rfl rfl hc4))) ?_; clear hk; intro a w hk
      refine FW.lfun (y := .lit (.int .u64 (FW.andI .u64 (FW.shrI .u64 v1 (if 63 < v19 then 63 else v19)) 1))) hk rfl rfl rfl rfl ((FW.f_pure (FW.p_and hk.kn (FW.holds_nil _) rfl rfl))) ?_; clear hk; intro a w hk
      refine FW.lfun (y := .lit (.bool (decide ((FW.andI .u64 (FW.shrI .u64 v1 (if 63 < v19 then 63 else v19)) 1) = 0)))) hk rfl rfl rfl rfl ((FW.f_pure (FW.p_eql hk.kn (FW.holds_nil _) rfl rfl))) ?_; clear hk; intro a w hk
      refine FW.lend (hK14 _ _ ?_); clear hK14 K'
      refine FW.wcondF (b := (decide ((FW.andI .u64 (FW.shrI .u64 v1 (if 63 < v19 then 63 else v19)) 1) = 0))) hk h rfl (fun h hb => ?_) (fun h hb => ?_)
      · skip
        refine FW.wreg ?_; intro K' hK15
        refine FW.lfun (y := .lit (.int .i64 v2)) hk rfl rfl rfl rfl (FW.f_move hk (FW.holds_nil _) rfl) ?_; clear hk; intro a w hk
        refine FW.lfun (y := .lit (.int .i64 (if v2 < 0 then 0 else v2))) hk rfl rfl rfl rfl ((FW.f_pure (FW.p_max hk.kn (FW.holds_nil _) rfl rfl))) ?_; clear hk; intro a w hk
        refine FW.lfun (y := .lit (.string (FW.B ((FW.mget v0.cache (List.getD v17 (Int.toNat v19) default)).getD ([] : List UInt8))))) hk rfl rfl rfl rfl (FW.f_move hk (FW.holds_nil _) rfl) ?_; clear hk; intro a w hk
        refine FW.lfun (y := .lit (.int .i64 (List.length ((FW.mget v0.cache (List.getD v17 (Int.toNat v19) default)).getD ([] : List UInt8)) : Int))) hk rfl rfl rfl rfl ((FW.f_pure (FW.p_slen Go.Proofs.Tryz.underlying9 hk.kn (FW.holds_nil _) rfl))) ?_; clear hk; intro a w hk
        refine FW.lfun (y := .lit (.int .i64 (if (List.length ((FW.mget v0.cache (List.getD v17 (Int.toNat v19) default)).getD ([] : List UInt8)) : Int) < (if v2 < 0 then 0 else v2) then (List.length ((FW.mget v0.cache (List.getD v17 (Int.toNat v19) default)).getD ([] : List UInt8)) : Int) else (if v2 < 0 then 0 else v2)))) hk rfl rfl rfl rfl ((FW.f_pure (FW.p_min hk.kn (FW.holds_nil _) rfl rfl))) ?_; clear hk; intro a w hk
        refine FW.lfun (y := .lit (.int .i64 (if (List.length ((FW.mget v0.cache (List.getD v17 (Int.toNat v19) default)).getD ([] : List UInt8)) : Int) < (if v2 < 0 then 0 else v2) then (List.length ((FW.mget v0.cache (List.getD v17 (Int.toNat v19) default)).getD ([] : List UInt8)) : Int) else (if v2 < 0 then 0 else v2)))) hk rfl rfl rfl rfl (FW.f_assign hk (FW.holds_nil _) rfl) ?_; clear hk; intro a w hk
        refine FW.lend (hK15 _ _ ?_); clear hK15 K'
        obtain ⟨hc5, h⟩ := FW.chk h
        obtain ⟨hc6, h⟩ := FW.chk h
        obtain ⟨hc7, h⟩ := FW.chk h
        obtain ⟨hc8, h⟩ := FW.chk h
        refine FW.wdraw (by kernel_rfl) (by kernel_rfl) hk ?_; clear hk
        refine FW.dfun (y := .lit (.string (FW.B ((FW.mget v0.cache (List.getD v17 (Int.toNat v19) default)).getD ([] : List UInt8))))) rfl rfl rfl rfl (fun a w hk => FW.f_move hk (FW.holds_nil _) rfl) ?_
        refine FW.dfun (y := .lit (.int .i64 (if (List.length ((FW.mget v0.cache (List.getD v17 (Int.toNat v19) default)).getD ([] : List UInt8)) : Int) < (if v2 < 0 then 0 else v2) then (List.length ((FW.mget v0.cache (List.getD v17 (Int.toNat v19) default)).getD ([] : List UInt8)) : Int) else (if v2 < 0 then 0 else v2)))) rfl rfl rfl rfl (fun a w hk => FW.f_move hk (FW.holds_nil _) rfl) ?_
        refine FW.dfun (y := .lit (.string (FW.B (List.take (Int.toNat (if (List.length ((FW.mget v0.cache (List.getD v17 (Int.toNat v19) default)).getD ([] : List UInt8)) : Int) < (if v2 < 0 then 0 else v2) then (List.length ((FW.mget v0.cache (List.getD v17 (Int.toNat v19) default)).getD ([] : List UInt8)) : Int) else (if v2 < 0 then 0 else v2))) ((FW.mget v0.cache (List.getD v17 (Int.toNat v19) default)).getD ([] : List UInt8)))))) rfl rfl rfl rfl (fun a w hk => (FW.f_pure (FW.p_slice_hi Go.Proofs.Tryz.underlying9 hk.kn (FW.holds_nil _) rfl rfl hc5))) ?_
        refine FW.dfun (y := .lit (.pointer (some ⟨b0, 0, none⟩))) rfl rfl rfl rfl (fun a w hk => FW.f_move hk (FW.holds_nil _) rfl) ?_
        refine FW.dfun (y := .lit (.pointer (some ⟨b0, 0, none⟩))) rfl rfl rfl rfl (fun a w hk => (FW.f_pure (FW.p_nilCheck hk.kn (FW.holds_nil _) rfl))) ?_
        refine FW.dfun (y := .lit (.pointer (some ⟨b0, 0, none⟩))) rfl rfl rfl rfl (fun a w hk => FW.f_fieldPtr hk (FW.holds_nil _) rfl Go.Proofs.Tryz.underlying75 rfl (by kernel_rfl) rfl) ?_
        refine FW.dfun (y := .lit (.slice xd2 (List.length l2) xc2)) rfl rfl rfl rfl (fun a w hk => FW.f_loadBlk1 hk (FW.holds_nil _) (j := 0) rfl rfl Go.Proofs.Tryz.underlying72 rfl rfl) ?_
        refine FW.dfun (y := .lit (.int .i64 (List.getD v17 (Int.toNat v19) default))) rfl rfl rfl rfl (fun a w hk => FW.f_move hk (FW.holds_nil _) rfl) ?_
        refine FW.dfun (y := FW.elA xd2 1 (List.getD v17 (Int.toNat v19) default)) rfl rfl rfl rfl (fun a w hk => FW.f_idxOwn (f := c_str) (l := l2) hk (FW.holds_nil _) (j := 1) rfl rfl (by first | rfl | simp only [List.length_set]) rfl Go.Proofs.Tryz.underlying72 (by kernel_rfl) hc6) ?_
        refine FW.dfun (y := .lit (.string (FW.B (List.getD l2 (Int.toNat (List.getD v17 (Int.toNat v19) default)) default)))) rfl rfl rfl rfl (fun a w hk => FW.f_loadOwn1 (f := c_str) (l := l2) hk (FW.holds_nil _) (j := 1) rfl rfl hc6 rfl Go.Proofs.Tryz.underlying9 rfl) ?_
        refine FW.dfun (y := .lit (.int .i64 (if (List.length ((FW.mget v0.cache (List.getD v17 (Int.toNat v19) default)).getD ([] : List UInt8)) : Int) < (if v2 < 0 then 0 else v2) then (List.length ((FW.mget v0.cache (List.getD v17 (Int.toNat v19) default)).getD ([] : List UInt8)) : Int) else (if v2 < 0 then 0 else v2)))) rfl rfl rfl rfl (fun a w hk => FW.f_move hk (FW.holds_nil _) rfl) ?_
        refine FW.dfun (y := .lit (.string (FW.B (List.drop (Int.toNat (if (List.length ((FW.mget v0.cache (List.getD v17 (Int.toNat v19) default)).getD ([] : List UInt8)) : Int) < (if v2 < 0 then 0 else v2) then (List.length ((FW.mget v0.cache (List.getD v17 (Int.toNat v19) default)).getD ([] : List UInt8)) : Int) else (if v2 < 0 then 0 else v2))) (List.getD l2 (Int.toNat (List.getD v17 (Int.toNat v19) default)) default))))) rfl rfl rfl rfl (fun a w hk => (FW.f_pure (FW.p_slice_lo Go.Proofs.Tryz.underlying9 hk.kn (FW.holds_nil _) rfl rfl hc7))) ?_
        refine FW.dfun (y := .lit (.string (FW.B ((List.take (Int.toNat (if (List.length ((FW.mget v0.cache (List.getD v17 (Int.toNat v19) default)).getD ([] : List UInt8)) : Int) < (if v2 < 0 then 0 else v2) then (List.length ((FW.mget v0.cache (List.getD v17 (Int.toNat v19) default)).getD ([] : List UInt8)) : Int) else (if v2 < 0 then 0 else v2))) ((FW.mget v0.cache (List.getD v17 (Int.toNat v19) default)).getD ([] : List UInt8))) ++ (List.drop (Int.toNat (if (List.length ((FW.mget v0.cache (List.getD v17 (Int.toNat v19) default)).getD ([] : List UInt8)) : Int) < (if v2 < 0 then 0 else v2) then (List.length ((FW.mget v0.cache (List.getD v17 (Int.toNat v19) default)).getD ([] : List UInt8)) : Int) else (if v2 < 0 then 0 else v2))) (List.getD l2 (Int.toNat (List.getD v17 (Int.toNat v19) default)) default)))))) rfl rfl rfl rfl (fun a w hk => (FW.f_pure (FW.p_sadd hk.kn (FW.holds_nil _) rfl rfl hc8))) ?_
        refine FW.dfun (y := .lit (.string (FW.B ((List.take (Int.toNat (if (List.length ((FW.mget v0.cache (List.getD v17 (Int.toNat v19) default)).getD ([] : List UInt8)) : Int) < (if v2 < 0 then 0 else v2) then (List.length ((FW.mget v0.cache (List.getD v17 (Int.toNat v19) default)).getD ([] : List UInt8)) : Int) else (if v2 < 0 then 0 else v2))) ((FW.mget v0.cache (List.getD v17 (Int.toNat v19) default)).getD ([] : List UInt8))) ++ (List.drop (Int.toNat (if (List.length ((FW.mget v0.cache (List.getD v17 (Int.toNat v19) default)).getD ([] : List UInt8)) : Int) < (if v2 < 0 then 0 else v2) then (List.length ((FW.mget v0.cache (List.getD v17 (Int.toNat v19) default)).getD ([] : List UInt8)) : Int) else (if v2 < 0 then 0 else v2))) (List.getD l2 (Int.toNat (List.getD v17 (Int.toNat v19) default)) default)))))) rfl rfl rfl rfl (fun a w hk => FW.f_assign hk (FW.holds_nil _) rfl) ?_
        refine FW.dend ?_; intro a w hk
        refine FW.wreg1 ?_
        refine FW.lfun (y := .lit (.int .i64 0)) hk rfl rfl rfl rfl (FW.f_assign hk (FW.holds_nil _) rfl) ?_; clear hk; intro a w hk
        refine wpList_nil ?_
        (repeat first | refine FW.then_normal ?_ | refine FW.block_normal ?_); exact hK11 _ _ ⟨v1, 0, (List.getD v17 (Int.toNat v19) default), ((List.take (Int.toNat (if (List.length ((FW.mget v0.cache (List.getD v17 (Int.toNat v19) default)).getD ([] : List UInt8)) : Int) < (if v2 < 0 then 0 else v2) then (List.length ((FW.mget v0.cache (List.getD v17 (Int.toNat v19) default)).getD ([] : List UInt8)) : Int) else (if v2 < 0 then 0 else v2))) ((FW.mget v0.cache (List.getD v17 (Int.toNat v19) default)).getD ([] : List UInt8))) ++ (List.drop (Int.toNat (if (List.length ((FW.mget v0.cache (List.getD v17 (Int.toNat v19) default)).getD ([] : List UInt8)) : Int) < (if v2 < 0 then 0 else v2) then (List.length ((FW.mget v0.cache (List.getD v17 (Int.toNat v19) default)).getD ([] : List UInt8)) : Int) else (if v2 < 0 then 0 else v2))) (List.getD l2 (Int.toNat (List.getD v17 (Int.toNat v19) default)) default))), v17, v18, v19, hk.sub ⟨rfl, rfl, rfl, rfl, rfl, rfl, rfl, rfl, trivial⟩, h⟩
      refine wp_skip ?_
      (repeat first | refine FW.then_normal ?_ | refine FW.block_normal ?_); exact hK11 _ _ ⟨v1, v2, (List.getD v17 (Int.toNat v19) default), ((FW.mget v0.cache (List.getD v17 (Int.toNat v19) default)).getD ([] : List UInt8)), v17, v18, v19, hk.sub ⟨rfl, rfl, rfl, rfl, rfl, rfl, rfl, rfl, trivial⟩, h⟩
  refine wp_exit ?_; (repeat first | refine FW.then_exit ?_ | refine FW.block_exit_ne rfl ?_); refine FW.block_exit ?_
  (repeat first | refine FW.then_normal ?_ | refine FW.block_normal ?_); refine hK3 _ _ ?_
  refine FW.wreg ?_; intro K' hK18
  refine FW.lfun (y := .lit (.pointer (some ⟨b0, 0, none⟩))) hk rfl rfl rfl rfl (FW.f_move hk (FW.holds_nil _) rfl) ?_; clear hk; intro a w hk
  refine FW.lfun (y := .lit (.pointer (some ⟨b0, 0, none⟩))) hk rfl rfl rfl rfl ((FW.f_pure (FW.p_nilCheck hk.kn (FW.holds_nil _) rfl))) ?_; clear hk; intro a w hk
  refine FW.lfun (y := .lit (.pointer (some ⟨b0, 1, none⟩))) hk rfl rfl rfl rfl (FW.f_fieldPtr hk (FW.holds_nil _) rfl Go.Proofs.Tryz.underlying75 rfl (by kernel_rfl) rfl) ?_; clear hk; intro a w hk
  refine FW.lfun (y := .lit (.map (some xr0_1))) hk rfl rfl rfl rfl (FW.f_loadBlk1 hk (FW.holds_nil _) (j := 0) rfl rfl Go.Proofs.Tryz.underlying73 rfl rfl) ?_; clear hk; intro a w hk
  refine FW.l_clearMap (ev := FW.evS) (I' := [FW.blk b0 75 ([.lit (.slice xd2 (List.length l2) xc2), .lit (.map (some xr0_1)), .lit (.int .i64 y1_2), .lit (.slice xd0_3 (List.length v0.falls) xc0_3), .lit (.bool y1_4)]), FW.orow xd2 xc2 9 1 c_str l2, FW.mapI (.int .i64) (Value.int .i64) FW.evS xr0_1 ([] : List (Int × (List UInt8))), FW.orow xd0_3 xc0_3 52 3 ApiFall.cells v0.falls]) (j := 2) hk rfl rfl Go.Proofs.Tryz.underlying73 rfl ?_; clear hk; intro w hk
  refine FW.lend (hK18 _ _ ?_); clear hK18 K'
  refine FW.wreg1 ?_
  refine FW.lfun (y := .lit (.pointer (some ⟨b0, 0, none⟩))) hk rfl rfl rfl rfl (FW.f_move hk (FW.holds_nil _) rfl) ?_; clear hk; intro a w hk
  refine FW.lfun (y := .lit (.pointer (some ⟨b0, 0, none⟩))) hk rfl rfl rfl rfl ((FW.f_pure (FW.p_nilCheck hk.kn (FW.holds_nil _) rfl))) ?_; clear hk; intro a w hk
  refine FW.lfun (y := .lit (.pointer (some ⟨b0, 4, none⟩))) hk rfl rfl rfl rfl (FW.f_fieldPtr hk (FW.holds_nil _) rfl Go.Proofs.Tryz.underlying75 rfl (by kernel_rfl) rfl) ?_; clear hk; intro a w hk
  refine FW.l_store (I' := [FW.blk b0 75 ([.lit (.slice xd2 (List.length l2) xc2), .lit (.map (some xr0_1)), .lit (.int .i64 y1_2), .lit (.slice xd0_3 (List.length v0.falls) xc0_3), .lit (.bool true)]), FW.orow xd2 xc2 9 1 c_str l2, FW.mapI (.int .i64) (Value.int .i64) FW.evS xr0_1 ([] : List (Int × (List UInt8))), FW.orow xd0_3 xc0_3 52 3 ApiFall.cells v0.falls]) (cs' := [.lit (.slice xd2 (List.length l2) xc2), .lit (.map (some xr0_1)), .lit (.int .i64 y1_2), .lit (.slice xd0_3 (List.length v0.falls) xc0_3), .lit (.bool true)]) (j := 0) hk rfl rfl rfl rfl rfl (by kernel_rfl) rfl rfl ?_; clear hk; intro w hk
  refine wpList_nil ?_
  (repeat first | refine FW.then_normal ?_ | refine FW.block_normal ?_)
  refine FW.fnorm ?_
  obtain rfl := Option.some.inj h
  replace hk := FW.S.keep (I1 := [FW.blk b0 75 ([.lit (.slice xd2 (List.length l2) xc2), .lit (.map (some xr0_1)), .lit (.int .i64 y1_2), .lit (.slice xd0_3 (List.length v0.falls) xc0_3), .lit (.bool true)]), FW.orow xd2 xc2 9 1 c_str l2, FW.mapI (.int .i64) (Value.int .i64) FW.evS xr0_1 ([] : List (Int × (List UInt8))), FW.orow xd0_3 xc0_3 52 3 ApiFall.cells v0.falls]) (I2 := []) (js := [3, 3, 3, 3]) hk rfl
  exact FW.fretH0 hk rfl ⟨xd2, xc2, xr0_1, xd0_3, xc0_3, rfl, rfl⟩
theorem dev_Dev_step.ok (K : Nat) (v0 : ODevDev) (r : Int × ODevDev) (h : dev_Dev_step.f K v0 = some r) :
    ∀ (b0 : Nat) (xd0_0 : Option Addr) (xc0_0 : Nat) (xr0_1 : Nat) (xd0_3 : Option Addr) (xc0_3 : Nat), FW.OkH Go.Proofs.Tryz.prog 79 [.lit (.pointer (some ⟨b0, 0, none⟩))] (ODevDev.items b0 xd0_0 xc0_0 xr0_1 xd0_3 xc0_3 v0) (fun y I => ∃ (zxd0_0 : Option Addr) (zxc0_0 : Nat) (zxr0_1 : Nat) (zxd0_3 : Option Addr) (zxc0_3 : Nat), y = .lit (.int .i64 r.1) ∧ I = ODevDev.items b0 zxd0_0 zxc0_0 zxr0_1 zxd0_3 zxc0_3 r.2) := by
  intro b0 xd0_0 xc0_0 xr0_1 xd0_3 xc0_3
  refine FW.enterH (xs := [.lit (.pointer (some ⟨b0, 0, none⟩))]) Go.Proofs.Tryz.func79 rfl Go.Proofs.Tryz.ntmps79 rfl ?_
  intro M w0 a hk
  replace hk : FW.S M w0 a w0.toWorld 44 [FW.blk b0 75 ([.lit (.slice xd0_0 (List.length v0.sure) xc0_0), .lit (.map (some xr0_1)), .lit (.int .i64 v0.steps), .lit (.slice xd0_3 (List.length v0.falls) xc0_3), .lit (.bool v0.off)]), FW.orow xd0_0 xc0_0 9 1 c_str v0.sure, FW.mapI (.int .i64) (Value.int .i64) FW.evS xr0_1 v0.cache, FW.orow xd0_3 xc0_3 52 3 ApiFall.cells v0.falls] [(0, [], .lit (.pointer (some ⟨b0, 0, none⟩)))] := hk
  unfold dev_Dev_step.f at h
  refine FW.wreg ?_; intro K' hK1
  refine FW.l_box (cs := [.lit (.pointer (some ⟨b0, 0, none⟩))]) hk rfl rfl rfl rfl rfl ?_; clear hk; intro bx1 a w hk
  refine FW.lfun (y := .lit (.int .i64 0)) hk rfl rfl rfl rfl (FW.f_assign hk (FW.holds_nil _) rfl) ?_; clear hk; intro a w hk
  refine FW.lend (hK1 _ _ ?_); clear hK1 K'
  refine FW.wreg ?_; intro K' hK2
  refine FW.lfun (y := .lit (.pointer (some ⟨b0, 0, none⟩))) hk rfl rfl rfl rfl (FW.f_loadBlk1 hk (FW.holds_nil _) (j := 0) rfl rfl Go.Proofs.Tryz.underlying24 rfl rfl) ?_; clear hk; intro a w hk
  refine FW.lfun (y := .lit (.pointer (some ⟨b0, 0, none⟩))) hk rfl rfl rfl rfl ((FW.f_pure (FW.p_nilCheck hk.kn (FW.holds_nil _) rfl))) ?_; clear hk; intro a w hk
  refine FW.lfun (y := .lit (.pointer (some ⟨b0, 3, none⟩))) hk rfl rfl rfl rfl (FW.f_fieldPtr hk (FW.holds_nil _) rfl Go.Proofs.Tryz.underlying75 rfl (by kernel_rfl) rfl) ?_; clear hk; intro a w hk
  refine FW.lfun (y := .lit (.slice xd0_3 (List.length v0.falls) xc0_3)) hk rfl rfl rfl rfl (FW.f_loadBlk1 hk (FW.holds_nil _) (j := 1) rfl rfl Go.Proofs.Tryz.underlying50 rfl rfl) ?_; clear hk; intro a w hk
  refine FW.lfun (y := .lit (.func (.func 99) #[] #[.pointer (some ⟨bx1, 0, none⟩)])) hk rfl rfl rfl rfl (FW.f_makeFunc hk (FW.holds_nil _) rfl) ?_; clear hk; intro a w hk
  obtain ⟨t1, hr_t1, h⟩ := FW.bnd h
  refine FW.l_callH (I1 := (OVarPDevDev.items bx1 b0 (⟨⟩ : OVarPDevDev)) ++ (ODevDev.items b0 xd0_0 xc0_0 xr0_1 xd0_3 xc0_3 v0)) (I2 := []) (js := [4, 4, 4, 4, 4]) hk rfl rfl rfl rfl rfl Go.Proofs.Tryz.func98 rfl (by kernel_rfl) (slices_IndexFunc_api_Fall_api_Fall_of_dev_Dev_step_1.ok K (⟨⟩ : OVarPDevDev) v0 _ hr_t1 bx1 b0 xd0_0 xc0_0 xr0_1 xd0_3 xc0_3) ?_; clear hk
  rintro _ _ ⟨rfl, rfl⟩ a w hk
  refine FW.lfun (y := .lit (.int .i64 t1)) hk rfl rfl rfl rfl (FW.f_assign hk (FW.holds_nil _) rfl) ?_; clear hk; intro a w hk
  refine FW.lend (hK2 _ _ ?_); clear hK2 K'
  refine FW.wseq ?_; intro K' hK3
  refine FW.wreg ?_; intro K' hK4
  refine FW.lfun (y := .lit (.int .i64 t1)) hk rfl rfl rfl rfl (FW.f_move hk (FW.holds_nil _) rfl) ?_; clear hk; intro a w hk
  refine FW.lfun (y := .lit (.bool (decide (t1 < 0)))) hk rfl rfl rfl rfl ((FW.f_pure (FW.p_lss hk.kn (FW.holds_nil _) rfl rfl))) ?_; clear hk; intro a w hk
  refine FW.lend (hK4 _ _ ?_); clear hK4 K'
  refine FW.wcondF (b := (decide (t1 < 0))) hk h rfl (fun h hb => ?_) (fun h hb => ?_)
  · skip
    refine FW.wreg ?_; intro K' hK5
    refine FW.lfun (y := .lit (.pointer (some ⟨b0, 0, none⟩))) hk rfl rfl rfl rfl (FW.f_loadBlk1 hk (FW.holds_nil _) (j := 0) rfl rfl Go.Proofs.Tryz.underlying24 rfl rfl) ?_; clear hk; intro a w hk
    refine FW.lfun (y := .lit (.pointer (some ⟨b0, 0, none⟩))) hk rfl rfl rfl rfl ((FW.f_pure (FW.p_nilCheck hk.kn (FW.holds_nil _) rfl))) ?_; clear hk; intro a w hk
    refine FW.lfun (y := .lit (.pointer (some ⟨b0, 2, none⟩))) hk rfl rfl rfl rfl (FW.f_fieldPtr hk (FW.holds_nil _) rfl Go.Proofs.Tryz.underlying75 rfl (by kernel_rfl) rfl) ?_; clear hk; intro a w hk
    refine FW.lfun (y := .lit (.int .i64 v0.steps)) hk rfl rfl rfl rfl (FW.f_loadBlk1 hk (FW.holds_nil _) (j := 1) rfl rfl Go.Proofs.Tryz.underlying3 rfl rfl) ?_; clear hk; intro a w hk
    refine FW.lfun (y := .lit (.int .i64 (IntKind.wrap .i64 (v0.steps + 1)))) hk rfl rfl rfl rfl ((FW.f_pure (FW.p_add hk.kn (FW.holds_nil _) rfl rfl))) ?_; clear hk; intro a w hk
    refine FW.lfun (y := .lit (.pointer (some ⟨b0, 0, none⟩))) hk rfl rfl rfl rfl ((FW.f_pure (FW.p_nilCheck hk.kn (FW.holds_nil _) rfl))) ?_; clear hk; intro a w hk
    refine FW.lfun (y := .lit (.pointer (some ⟨b0, 2, none⟩))) hk rfl rfl rfl rfl (FW.f_fieldPtr hk (FW.holds_nil _) rfl Go.Proofs.Tryz.underlying75 rfl (by kernel_rfl) rfl) ?_; clear hk; intro a w hk
    refine FW.l_store (I' := [FW.blk bx1 24 ([.lit (.pointer (some ⟨b0, 0, none⟩))]), FW.blk b0 75 ([.lit (.slice xd0_0 (List.length v0.sure) xc0_0), .lit (.map (some xr0_1)), .lit (.int .i64 (IntKind.wrap .i64 (v0.steps + 1))), .lit (.slice xd0_3 (List.length v0.falls) xc0_3), .lit (.bool v0.off)]), FW.orow xd0_0 xc0_0 9 1 c_str v0.sure, FW.mapI (.int .i64) (Value.int .i64) FW.evS xr0_1 v0.cache, FW.orow xd0_3 xc0_3 52 3 ApiFall.cells v0.falls]) (cs' := [.lit (.slice xd0_0 (List.length v0.sure) xc0_0), .lit (.map (some xr0_1)), .lit (.int .i64 (IntKind.wrap .i64 (v0.steps + 1))), .lit (.slice xd0_3 (List.length v0.falls) xc0_3), .lit (.bool v0.off)]) (j := 1) hk rfl rfl rfl rfl rfl (by kernel_rfl) rfl rfl ?_; clear hk; intro w hk
    refine FW.lend (hK5 _ _ ?_); clear hK5 K'
    refine FW.wreg ?_; intro K' hK6
    refine FW.lfun (y := .lit (.int .i64 0)) hk rfl rfl rfl rfl (FW.f_assign hk (FW.holds_nil _) rfl) ?_; clear hk; intro a w hk
    refine FW.lend (hK6 _ _ ?_); clear hK6 K'
    refine wp_ret ?_
    (repeat first | refine FW.then_ret ?_ | refine FW.block_ret ?_)
    obtain rfl := Option.some.inj h
    replace hk := FW.S.keep (I1 := [FW.blk b0 75 ([.lit (.slice xd0_0 (List.length v0.sure) xc0_0), .lit (.map (some xr0_1)), .lit (.int .i64 (IntKind.wrap .i64 (v0.steps + 1))), .lit (.slice xd0_3 (List.length v0.falls) xc0_3), .lit (.bool v0.off)]), FW.orow xd0_0 xc0_0 9 1 c_str v0.sure, FW.mapI (.int .i64) (Value.int .i64) FW.evS xr0_1 v0.cache, FW.orow xd0_3 xc0_3 52 3 ApiFall.cells v0.falls]) (I2 := [FW.blk bx1 24 ([.lit (.pointer (some ⟨b0, 0, none⟩))])]) (js := [4, 4, 4, 4]) hk rfl
    exact FW.fretH1 hk rfl (FW.rtmp hk rfl) ⟨xd0_0, xc0_0, xr0_1, xd0_3, xc0_3, rfl, rfl⟩
  refine wp_skip ?_
  (repeat first | refine FW.then_normal ?_ | refine FW.block_normal ?_); refine hK3 _ _ ?_
  refine FW.wreg ?_; intro K' hK7
  refine FW.lfun (y := .lit (.pointer (some ⟨b0, 0, none⟩))) hk rfl rfl rfl rfl (FW.f_loadBlk1 hk (FW.holds_nil _) (j := 0) rfl rfl Go.Proofs.Tryz.underlying24 rfl rfl) ?_; clear hk; intro a w hk
  refine FW.lfun (y := .lit (.pointer (some ⟨b0, 0, none⟩))) hk rfl rfl rfl rfl ((FW.f_pure (FW.p_nilCheck hk.kn (FW.holds_nil _) rfl))) ?_; clear hk; intro a w hk
  refine FW.lfun (y := .lit (.pointer (some ⟨b0, 3, none⟩))) hk rfl rfl rfl rfl (FW.f_fieldPtr hk (FW.holds_nil _) rfl Go.Proofs.Tryz.underlying75 rfl (by kernel_rfl) rfl) ?_; clear hk; intro a w hk
  refine FW.lfun (y := .lit (.slice xd0_3 (List.length v0.falls) xc0_3)) hk rfl rfl rfl rfl (FW.f_loadBlk1 hk (FW.holds_nil _) (j := 1) rfl rfl Go.Proofs.Tryz.underlying50 rfl rfl) ?_; clear hk; intro a w hk
  refine FW.lfun (y := .lit (.int .i64 t1)) hk rfl rfl rfl rfl (FW.f_move hk (FW.holds_nil _) rfl) ?_; clear hk; intro a w hk
  obtain ⟨hc1, h⟩ := FW.chk h
  refine FW.lfun (y := FW.elA xd0_3 3 t1) hk rfl rfl rfl rfl (FW.f_idxOwn (f := ApiFall.cells) (l := v0.falls) hk (FW.holds_nil _) (j := 4) rfl rfl (by first | rfl | simp only [List.length_set]) rfl Go.Proofs.Tryz.underlying50 (by kernel_rfl) hc1) ?_; clear hk; intro a w hk
  refine FW.lfun (y := .agg ((ApiFall.cells (List.getD v0.falls (Int.toNat t1) default)))) hk rfl rfl rfl rfl (FW.f_loadOwn (f := ApiFall.cells) (l := v0.falls) hk (FW.holds_nil _) (j := 4) rfl rfl hc1 Go.Proofs.Tryz.underlying52 rfl (by kernel_rfl)) ?_; clear hk; intro a w hk
  refine FW.l_alloc (zs := (ApiFall.cells (⟨0, 0, 0⟩ : ApiFall))) [] hk rfl rfl rfl rfl ?_; clear hk; intro bx2 a w hk
  refine FW.l_store (I' := [FW.blk bx2 52 ((ApiFall.cells (List.getD v0.falls (Int.toNat t1) default))), FW.blk bx1 24 ([.lit (.pointer (some ⟨b0, 0, none⟩))]), FW.blk b0 75 ([.lit (.slice xd0_0 (List.length v0.sure) xc0_0), .lit (.map (some xr0_1)), .lit (.int .i64 v0.steps), .lit (.slice xd0_3 (List.length v0.falls) xc0_3), .lit (.bool v0.off)]), FW.orow xd0_0 xc0_0 9 1 c_str v0.sure, FW.mapI (.int .i64) (Value.int .i64) FW.evS xr0_1 v0.cache, FW.orow xd0_3 xc0_3 52 3 ApiFall.cells v0.falls]) (cs' := (ApiFall.cells (List.getD v0.falls (Int.toNat t1) default))) (j := 0) hk rfl rfl rfl rfl rfl (by kernel_rfl) rfl rfl ?_; clear hk; intro w hk
  refine FW.lend (hK7 _ _ ?_); clear hK7 K'
  obtain ⟨hc2, h⟩ := FW.chk h
  refine FW.wdrawE (.next [true, true, true, true, true, true, true, true, false, false, false, false] 8 [true, true, true, true, true, true, true, true, false, false, false, false] (.next [true, false, false, false, false, false, false, false, false, true, true, false] 11 [true, true, true, true, true, true, true, true, true, true, true, false] (.leaf [false, false, false, false, false, false, false, false, false, false, false, false]))) [(27, [], .lit (.pointer (some ⟨b0, 0, none⟩))), (28, [], .lit (.pointer (some ⟨b0, 0, none⟩))), (29, [], .lit (.pointer (some ⟨b0, 0, none⟩))), (30, [], .lit (.pointer (some ⟨b0, 3, none⟩))), (31, [], .lit (.slice xd0_3 (List.length v0.falls) xc0_3)), (32, [], .lit (.int .i64 t1)), (33, [], .lit (.int .i64 t1)), (34, [], .lit (.int .i64 (IntKind.wrap .i64 (t1 + 1)))), (35, [], .agg []), (36, [], .agg []), (37, [], .agg []), (44, [], .lit undef)] (by kernel_rfl) (by kernel_rfl) (by kernel_rfl) (by kernel_rfl) hk ?_; clear hk
  refine FW.gnext ?_ rfl rfl rfl rfl rfl ?_
  · skip
    refine FW.gfun (y := .lit (.pointer (some ⟨b0, 0, none⟩))) rfl rfl rfl rfl (fun a w hk => FW.f_loadBlk1 hk (FW.holds_nil _) (j := 1) rfl rfl Go.Proofs.Tryz.underlying24 rfl rfl) ?_
    refine FW.gfun (y := .lit (.pointer (some ⟨b0, 0, none⟩))) rfl rfl rfl rfl (fun a w hk => FW.f_loadBlk1 hk (FW.holds_nil _) (j := 1) rfl rfl Go.Proofs.Tryz.underlying24 rfl rfl) ?_
    refine FW.gfun (y := .lit (.pointer (some ⟨b0, 0, none⟩))) rfl rfl rfl rfl (fun a w hk => (FW.f_pure (FW.p_nilCheck hk.kn (FW.holds_nil _) rfl))) ?_
    refine FW.gfun (y := .lit (.pointer (some ⟨b0, 3, none⟩))) rfl rfl rfl rfl (fun a w hk => FW.f_fieldPtr hk (FW.holds_nil _) rfl Go.Proofs.Tryz.underlying75 rfl (by kernel_rfl) rfl) ?_
    refine FW.gfun (y := .lit (.slice xd0_3 (List.length v0.falls) xc0_3)) rfl rfl rfl rfl (fun a w hk => FW.f_loadBlk1 hk (FW.holds_nil _) (j := 2) rfl rfl Go.Proofs.Tryz.underlying50 rfl rfl) ?_
    refine FW.gfun (y := .lit (.int .i64 t1)) rfl rfl rfl rfl (fun a w hk => FW.f_move hk (FW.holds_nil _) rfl) ?_
    refine FW.gfun (y := .lit (.int .i64 t1)) rfl rfl rfl rfl (fun a w hk => FW.f_move hk (FW.holds_nil _) rfl) ?_
    refine FW.gfun (y := .lit (.int .i64 (IntKind.wrap .i64 (t1 + 1)))) rfl rfl rfl rfl (fun a w hk => (FW.f_pure (FW.p_add hk.kn (FW.holds_nil _) rfl rfl))) ?_
    refine FW.gskip rfl rfl ?_
    refine FW.gskip rfl rfl ?_
    refine FW.gskip rfl rfl ?_
    refine FW.gskip0 rfl ?_
    exact FW.gend
  · skip
    intro σD a w opsD QD hk hf hQ hX
    refine FW.l_callH (I1 := [FW.orow xd0_3 xc0_3 52 3 ApiFall.cells v0.falls]) (I2 := [FW.blk bx2 52 ((ApiFall.cells (List.getD v0.falls (Int.toNat t1) default))), FW.blk bx1 24 ([.lit (.pointer (some ⟨b0, 0, none⟩))]), FW.blk b0 75 ([.lit (.slice xd0_0 (List.length v0.sure) xc0_0), .lit (.map (some xr0_1)), .lit (.int .i64 v0.steps), .lit (.slice xd0_3 (List.length v0.falls) xc0_3), .lit (.bool v0.off)]), FW.orow xd0_0 xc0_0 9 1 c_str v0.sure, FW.mapI (.int .i64) (Value.int .i64) FW.evS xr0_1 v0.cache]) (js := [5]) hk rfl rfl hf rfl rfl Go.Proofs.Tryz.func100 rfl (by kernel_rfl) (fallsDelete.ok' v0.falls t1 (IntKind.wrap .i64 (t1 + 1)) hc2 _ _) ?_; clear hk
    rintro _ _ ⟨rfl, rfl⟩ a w hk
    refine hQ _ _ a w ?_ hk; clear hk hQ hf hX
    refine ⟨[(27, [], .lit (.pointer (some ⟨b0, 0, none⟩))), (28, [], .lit (.pointer (some ⟨b0, 0, none⟩))), (29, [], .lit (.pointer (some ⟨b0, 0, none⟩))), (30, [], .lit (.pointer (some ⟨b0, 3, none⟩))), (31, [], .lit (.slice xd0_3 (List.length v0.falls) xc0_3)), (32, [], .lit (.int .i64 t1)), (33, [], .lit (.int .i64 t1)), (34, [], .lit (.int .i64 (IntKind.wrap .i64 (t1 + 1)))), (35, [], .lit (.slice xd0_3 (List.length ([] : List ApiFall)) xc0_3)), (36, [], .lit (.pointer (some ⟨b0, 0, none⟩))), (37, [], .lit (.pointer (some ⟨b0, 3, none⟩))), (44, [], .lit undef)], And.intro rfl (And.intro rfl (And.intro rfl (And.intro rfl (And.intro rfl (And.intro rfl (And.intro rfl (And.intro rfl (trivial)))))))), rfl, ?_⟩
    refine FW.gnext0 ?_ rfl rfl rfl ?_
    · skip
      refine FW.gfun (y := .lit (.pointer (some ⟨b0, 0, none⟩))) rfl rfl rfl rfl (fun a w hk => FW.f_loadBlk1 hk (FW.holds_nil _) (j := 2) rfl rfl Go.Proofs.Tryz.underlying24 rfl rfl) ?_
      refine FW.gskip rfl rfl ?_
      refine FW.gskip rfl rfl ?_
      refine FW.gskip rfl rfl ?_
      refine FW.gskip rfl rfl ?_
      refine FW.gskip rfl rfl ?_
      refine FW.gskip rfl rfl ?_
      refine FW.gskip rfl rfl ?_
      refine FW.gskip rfl rfl ?_
      refine FW.gfun (y := .lit (.pointer (some ⟨b0, 0, none⟩))) rfl rfl rfl rfl (fun a w hk => (FW.f_pure (FW.p_nilCheck hk.kn (FW.holds_nil _) rfl))) ?_
      refine FW.gfun (y := .lit (.pointer (some ⟨b0, 3, none⟩))) rfl rfl rfl rfl (fun a w hk => FW.f_fieldPtr hk (FW.holds_nil _) rfl Go.Proofs.Tryz.underlying75 rfl (by kernel_rfl) rfl) ?_
      refine FW.gskip0 rfl ?_
      exact FW.gend
    · skip
      intro σD a w opsD QD hk hQ hX
      refine FW.l_store (I' := [FW.orow xd0_3 xc0_3 52 3 ApiFall.cells ([] : List ApiFall), FW.blk bx2 52 ((ApiFall.cells (List.getD v0.falls (Int.toNat t1) default))), FW.blk bx1 24 ([.lit (.pointer (some ⟨b0, 0, none⟩))]), FW.blk b0 75 ([.lit (.slice xd0_0 (List.length v0.sure) xc0_0), .lit (.map (some xr0_1)), .lit (.int .i64 v0.steps), .lit (.slice xd0_3 (List.length ([] : List ApiFall)) xc0_3), .lit (.bool v0.off)]), FW.orow xd0_0 xc0_0 9 1 c_str v0.sure, FW.mapI (.int .i64) (Value.int .i64) FW.evS xr0_1 v0.cache]) (cs' := [.lit (.slice xd0_0 (List.length v0.sure) xc0_0), .lit (.map (some xr0_1)), .lit (.int .i64 v0.steps), .lit (.slice xd0_3 (List.length ([] : List ApiFall)) xc0_3), .lit (.bool v0.off)]) (j := 3) hk rfl rfl rfl rfl rfl (by kernel_rfl) rfl rfl ?_; clear hk; intro w hk
      refine hQ _ a w ?_ hk; clear hk hQ hX
      refine ⟨[(27, [], .lit (.pointer (some ⟨b0, 0, none⟩))), (28, [], .lit (.pointer (some ⟨b0, 0, none⟩))), (29, [], .lit (.pointer (some ⟨b0, 0, none⟩))), (30, [], .lit (.pointer (some ⟨b0, 3, none⟩))), (31, [], .lit (.slice xd0_3 (List.length v0.falls) xc0_3)), (32, [], .lit (.int .i64 t1)), (33, [], .lit (.int .i64 t1)), (34, [], .lit (.int .i64 (IntKind.wrap .i64 (t1 + 1)))), (35, [], .lit (.slice xd0_3 (List.length ([] : List ApiFall)) xc0_3)), (36, [], .lit (.pointer (some ⟨b0, 0, none⟩))), (37, [], .lit (.pointer (some ⟨b0, 3, none⟩))), (44, [], .lit undef)], And.intro rfl (And.intro rfl (And.intro rfl (And.intro rfl (And.intro rfl (And.intro rfl (And.intro rfl (And.intro rfl (And.intro rfl (And.intro rfl (And.intro rfl (trivial))))))))))), rfl, ?_⟩
      refine FW.glast ?_ ?_
      · skip
        refine FW.gskip rfl rfl ?_
        refine FW.gskip rfl rfl ?_
        refine FW.gskip rfl rfl ?_
        refine FW.gskip rfl rfl ?_
        refine FW.gskip rfl rfl ?_
        refine FW.gskip rfl rfl ?_
        refine FW.gskip rfl rfl ?_
        refine FW.gskip rfl rfl ?_
        refine FW.gskip rfl rfl ?_
        refine FW.gskip rfl rfl ?_
        refine FW.gskip rfl rfl ?_
        refine FW.gskip0 rfl ?_
        exact FW.gend
      · skip
        intro a w hk; simp only [FW.stD, cond_true] at hk
        refine FW.wreg ?_; intro K' hK9
        refine FW.lfun (y := .lit (.pointer (some ⟨b0, 0, none⟩))) hk rfl rfl rfl rfl (FW.f_loadBlk1 hk (FW.holds_nil _) (j := 2) rfl rfl Go.Proofs.Tryz.underlying24 rfl rfl) ?_; clear hk; intro a w hk
        refine FW.lfun (y := .lit (.pointer (some ⟨bx2, 1, none⟩))) hk rfl rfl rfl rfl (FW.f_fieldPtr hk (FW.holds_nil _) rfl Go.Proofs.Tryz.underlying52 rfl (by kernel_rfl) rfl) ?_; clear hk; intro a w hk
        refine FW.lfun (y := .lit (.int .u64 ((List.getD v0.falls (Int.toNat t1) default).Keep))) hk rfl rfl rfl rfl (FW.f_loadBlk1 hk (FW.holds_nil _) (j := 1) rfl rfl Go.Proofs.Tryz.underlying27 rfl rfl) ?_; clear hk; intro a w hk
        refine FW.lfun (y := .lit (.pointer (some ⟨bx2, 2, none⟩))) hk rfl rfl rfl rfl (FW.f_fieldPtr hk (FW.holds_nil _) rfl Go.Proofs.Tryz.underlying52 rfl (by kernel_rfl) rfl) ?_; clear hk; intro a w hk
        refine FW.lfun (y := .lit (.int .i64 ((List.getD v0.falls (Int.toNat t1) default).Torn))) hk rfl rfl rfl rfl (FW.f_loadBlk1 hk (FW.holds_nil _) (j := 1) rfl rfl Go.Proofs.Tryz.underlying3 rfl rfl) ?_; clear hk; intro a w hk
        obtain ⟨t2, hr_t2, h⟩ := FW.bnd h
        refine FW.l_callH (I1 := (ODevDev.items b0 xd0_0 xc0_0 xr0_1 xd0_3 xc0_3 (⟨v0.sure, v0.cache, v0.steps, ([] : List ApiFall), v0.off⟩ : ODevDev))) (I2 := [FW.blk bx2 52 ((ApiFall.cells (List.getD v0.falls (Int.toNat t1) default))), FW.blk bx1 24 ([.lit (.pointer (some ⟨b0, 0, none⟩))])]) (js := [0, 5, 5, 5]) hk rfl rfl rfl rfl rfl Go.Proofs.Tryz.func26 rfl (by kernel_rfl) (dev_Dev_Crash.ok K (⟨v0.sure, v0.cache, v0.steps, ([] : List ApiFall), v0.off⟩ : ODevDev) ((List.getD v0.falls (Int.toNat t1) default).Keep) ((List.getD v0.falls (Int.toNat t1) default).Torn) _ hr_t2 b0 xd0_0 xc0_0 xr0_1 xd0_3 xc0_3) ?_; clear hk
        rintro _ _ ⟨zd1, zc1, zr1, zd2, zc2, rfl, rfl⟩ a w hk
        refine FW.lend (hK9 _ _ ?_); clear hK9 K'
        refine FW.wreg ?_; intro K' hK10
        refine FW.lfun (y := .lit (.int .i64 7)) hk rfl rfl rfl rfl (FW.f_assign hk (FW.holds_nil _) rfl) ?_; clear hk; intro a w hk
        refine FW.lend (hK10 _ _ ?_); clear hK10 K'
        refine wp_ret ?_
        (repeat first | refine FW.then_ret ?_ | refine FW.block_ret ?_)
        obtain rfl := Option.some.inj h
        replace hk := FW.S.keep (I1 := [FW.blk b0 75 ([.lit (.slice zd1 (List.length t2.sure) zc1), .lit (.map (some zr1)), .lit (.int .i64 t2.steps), .lit (.slice zd2 (List.length t2.falls) zc2), .lit (.bool t2.off)]), FW.orow zd1 zc1 9 1 c_str t2.sure, FW.mapI (.int .i64) (Value.int .i64) FW.evS zr1 t2.cache, FW.orow zd2 zc2 52 3 ApiFall.cells t2.falls]) (I2 := [FW.blk bx2 52 ((ApiFall.cells (List.getD v0.falls (Int.toNat t1) default))), FW.blk bx1 24 ([.lit (.pointer (some ⟨b0, 0, none⟩))])]) (js := [3, 3, 3, 3]) hk rfl
        exact FW.fretH1 hk rfl (FW.rtmp hk rfl) ⟨zd1, zc1, zr1, zd2, zc2, rfl, rfl⟩
end Go.Proofs.YtfbkgaandmebaaaGreat
namespace Go.Proofs.YtfbkgaandmebaaaGreat
set_option linter.unusedVariables false
set_option maxRecDepth 20000
set_option maxHeartbeats 10000000
theorem dev_Dev_Write.ok (K : Nat) (v0 : ODevDev) (v1 : Int) (v2 : List UInt8) (r : Int × ODevDev) (h : dev_Dev_Write.f K v0 v1 v2 = some r) :
    ∀ (b0 : Nat) (xd0_0 : Option Addr) (xc0_0 : Nat) (xr0_1 : Nat) (xd0_3 : Option Addr) (xc0_3 : Nat), FW.OkH Go.Proofs.Tryz.prog 53 [.lit (.pointer (some ⟨b0, 0, none⟩)), .lit (.int .i64 v1), .lit (.string (FW.B v2))] (ODevDev.items b0 xd0_0 xc0_0 xr0_1 xd0_3 xc0_3 v0) (fun y I => ∃ (zxd0_0 : Option Addr) (zxc0_0 : Nat) (zxr0_1 : Nat) (zxd0_3 : Option Addr) (zxc0_3 : Nat), y = .lit (.int .i64 r.1) ∧ I = ODevDev.items b0 zxd0_0 zxc0_0 zxr0_1 zxd0_3 zxc0_3 r.2) := by
  intro b0 xd0_0 xc0_0 xr0_1 xd0_3 xc0_3
  refine FW.enterH (xs := [.lit (.pointer (some ⟨b0, 0, none⟩)), .lit (.int .i64 v1), .lit (.string (FW.B v2))]) Go.Proofs.Tryz.func53 rfl Go.Proofs.Tryz.ntmps53 rfl ?_
  intro M w0 a hk
  replace hk : FW.S M w0 a w0.toWorld 39 [FW.blk b0 75 ([.lit (.slice xd0_0 (List.length v0.sure) xc0_0), .lit (.map (some xr0_1)), .lit (.int .i64 v0.steps), .lit (.slice xd0_3 (List.length v0.falls) xc0_3), .lit (.bool v0.off)]), FW.orow xd0_0 xc0_0 9 1 c_str v0.sure, FW.mapI (.int .i64) (Value.int .i64) FW.evS xr0_1 v0.cache, FW.orow xd0_3 xc0_3 52 3 ApiFall.cells v0.falls] [(0, [], .lit (.pointer (some ⟨b0, 0, none⟩))), (1, [], .lit (.int .i64 v1)), (2, [], .lit (.string (FW.B v2)))] := hk
  unfold dev_Dev_Write.f at h
  refine FW.wreg ?_; intro K' hK1
  refine FW.lfun (y := .lit (.int .i64 0)) hk rfl rfl rfl rfl (FW.f_assign hk (FW.holds_nil _) rfl) ?_; clear hk; intro a w hk
  refine FW.lend (hK1 _ _ ?_); clear hK1 K'
  refine FW.wseq ?_; intro K' hK2
  refine wp_block ?_
  refine FW.wreg ?_; intro K' hK3
  refine FW.lfun (y := .lit (.pointer (some ⟨b0, 0, none⟩))) hk rfl rfl rfl rfl (FW.f_move hk (FW.holds_nil _) rfl) ?_; clear hk; intro a w hk
  obtain ⟨t1, hr_t1, h⟩ := FW.bnd h
  refine FW.l_callH (I1 := (ODevDev.items b0 xd0_0 xc0_0 xr0_1 xd0_3 xc0_3 v0)) (I2 := []) (js := [3, 3, 3, 3]) hk rfl rfl rfl rfl rfl Go.Proofs.Tryz.func13 rfl (by kernel_rfl) (dev_Dev_Off.ok v0 _ hr_t1 b0 xd0_0 xc0_0 xr0_1 xd0_3 xc0_3) ?_; clear hk
  rintro _ _ ⟨rfl, rfl⟩ a w hk
  refine FW.lfun (y := .lit (.bool t1)) hk rfl rfl rfl rfl (FW.f_assign hk (FW.holds_nil _) rfl) ?_; clear hk; intro a w hk
  refine FW.lend (hK3 _ _ ?_); clear hK3 K'
  refine FW.wcondF (b := t1) hk h rfl (fun h hb => ?_) (fun h hb => ?_)
  · skip
    refine FW.wreg ?_; intro K' hK4
    refine FW.lfun (y := .lit (.int .i64 7)) hk rfl rfl rfl rfl (FW.f_assign hk (FW.holds_nil _) rfl) ?_; clear hk; intro a w hk
    refine FW.lend (hK4 _ _ ?_); clear hK4 K'
    refine wp_ret ?_
    (repeat first | refine FW.then_ret ?_ | refine FW.block_ret ?_)
    obtain rfl := Option.some.inj h
    replace hk := FW.S.keep (I1 := [FW.blk b0 75 ([.lit (.slice xd0_0 (List.length v0.sure) xc0_0), .lit (.map (some xr0_1)), .lit (.int .i64 v0.steps), .lit (.slice xd0_3 (List.length v0.falls) xc0_3), .lit (.bool v0.off)]), FW.orow xd0_0 xc0_0 9 1 c_str v0.sure, FW.mapI (.int .i64) (Value.int .i64) FW.evS xr0_1 v0.cache, FW.orow xd0_3 xc0_3 52 3 ApiFall.cells v0.falls]) (I2 := []) (js := [3, 3, 3, 3]) hk rfl
    exact FW.fretH1 hk rfl (FW.rtmp hk rfl) ⟨xd0_0, xc0_0, xr0_1, xd0_3, xc0_3, rfl, rfl⟩
  refine FW.wreg ?_; intro K' hK5
  refine FW.lfun (y := .lit (.int .i64 v1)) hk rfl rfl rfl rfl (FW.f_move hk (FW.holds_nil _) rfl) ?_; clear hk; intro a w hk
  refine FW.lfun (y := .lit (.bool (decide (v1 < 0)))) hk rfl rfl rfl rfl ((FW.f_pure (FW.p_lss hk.kn (FW.holds_nil _) rfl rfl))) ?_; clear hk; intro a w hk
  refine FW.lfun (y := .lit (.bool (decide (v1 < 0)))) hk rfl rfl rfl rfl (FW.f_move hk (FW.holds_nil _) rfl) ?_; clear hk; intro a w hk
  refine FW.lfunG (y := .lit (.int .i64 v1)) hk rfl rfl rfl rfl rfl rfl rfl rfl (fun hc => FW.f_move hk hc rfl) ?_; clear hk; intro a w hk
  refine FW.lfunG (y := .lit (.pointer (some ⟨b0, 0, none⟩))) hk rfl rfl rfl rfl rfl rfl rfl rfl (fun hc => FW.f_move hk hc rfl) ?_; clear hk; intro a w hk
  refine FW.lfunG (y := .lit (.pointer (some ⟨b0, 0, none⟩))) hk rfl rfl rfl rfl rfl rfl rfl rfl (fun hc => (FW.f_pure (FW.p_nilCheck hk.kn hc rfl))) ?_; clear hk; intro a w hk
  refine FW.lfunG (y := .lit (.pointer (some ⟨b0, 0, none⟩))) hk rfl rfl rfl rfl rfl rfl rfl rfl (fun hc => FW.f_fieldPtr hk hc rfl Go.Proofs.Tryz.underlying75 rfl (by kernel_rfl) rfl) ?_; clear hk; intro a w hk
  refine FW.lfunG (y := .lit (.slice xd0_0 (List.length v0.sure) xc0_0)) hk rfl rfl rfl rfl rfl rfl rfl rfl (fun hc => FW.f_loadBlk1 hk hc (j := 0) rfl rfl Go.Proofs.Tryz.underlying72 rfl rfl) ?_; clear hk; intro a w hk
  refine FW.lfunG (y := .lit (.int .i64 (List.length v0.sure : Int))) hk rfl rfl rfl rfl rfl rfl rfl rfl (fun hc => (FW.f_pure (FW.p_len Go.Proofs.Tryz.underlying72 hk.kn hc rfl))) ?_; clear hk; intro a w hk
  refine FW.lfunG (y := .lit (.bool (decide ((List.length v0.sure : Int) ≤ v1)))) hk rfl rfl rfl rfl rfl rfl rfl rfl (fun hc => (FW.f_pure (FW.p_geq hk.kn hc rfl rfl))) ?_; clear hk; intro a w hk
  refine FW.lfun (y := .lit (.bool ((decide (v1 < 0)) || (decide ((List.length v0.sure : Int) ≤ v1))))) hk rfl rfl rfl rfl ((FW.f_pure (FW.p_pick_or hk.kn (FW.holds_nil _) rfl rfl))) ?_; clear hk; intro a w hk
  refine FW.lfun (y := .lit (.bool ((decide (v1 < 0)) || (decide ((List.length v0.sure : Int) ≤ v1))))) hk rfl rfl rfl rfl (FW.f_move hk (FW.holds_nil _) rfl) ?_; clear hk; intro a w hk
  refine FW.lfunG (y := .lit (.string (FW.B v2))) hk rfl rfl rfl rfl rfl rfl rfl rfl (fun hc => FW.f_move hk hc rfl) ?_; clear hk; intro a w hk
  refine FW.lfunG (y := .lit (.int .i64 (List.length v2 : Int))) hk rfl rfl rfl rfl rfl rfl rfl rfl (fun hc => (FW.f_pure (FW.p_slen Go.Proofs.Tryz.underlying9 hk.kn hc rfl))) ?_; clear hk; intro a w hk
  refine FW.lfunG (y := .lit (.bool (!decide ((List.length v2 : Int) = 128)))) hk rfl rfl rfl rfl rfl rfl rfl rfl (fun hc => (FW.f_pure (FW.p_neq hk.kn hc rfl rfl))) ?_; clear hk; intro a w hk
  refine FW.lfun (y := .lit (.bool (((decide (v1 < 0)) || (decide ((List.length v0.sure : Int) ≤ v1))) || (!decide ((List.length v2 : Int) = 128))))) hk rfl rfl rfl rfl ((FW.f_pure (FW.p_pick_or hk.kn (FW.holds_nil _) rfl rfl))) ?_; clear hk; intro a w hk
  refine FW.lfun (y := .lit (.bool (((decide (v1 < 0)) || (decide ((List.length v0.sure : Int) ≤ v1))) || (!decide ((List.length v2 : Int) = 128))))) hk rfl rfl rfl rfl (FW.f_assign hk (FW.holds_nil _) rfl) ?_; clear hk; intro a w hk
  refine FW.lend (hK5 _ _ ?_); clear hK5 K'
  refine FW.wcondF (b := (((decide (v1 < 0)) || (decide ((List.length v0.sure : Int) ≤ v1))) || (!decide ((List.length v2 : Int) = 128)))) hk h rfl (fun h hb => ?_) (fun h hb => ?_)
  · skip
    refine FW.wreg ?_; intro K' hK6
    refine FW.lfun (y := .lit (.int .i64 1)) hk rfl rfl rfl rfl (FW.f_assign hk (FW.holds_nil _) rfl) ?_; clear hk; intro a w hk
    refine FW.lend (hK6 _ _ ?_); clear hK6 K'
    refine wp_ret ?_
    (repeat first | refine FW.then_ret ?_ | refine FW.block_ret ?_)
    obtain rfl := Option.some.inj h
    replace hk := FW.S.keep (I1 := [FW.blk b0 75 ([.lit (.slice xd0_0 (List.length v0.sure) xc0_0), .lit (.map (some xr0_1)), .lit (.int .i64 v0.steps), .lit (.slice xd0_3 (List.length v0.falls) xc0_3), .lit (.bool v0.off)]), FW.orow xd0_0 xc0_0 9 1 c_str v0.sure, FW.mapI (.int .i64) (Value.int .i64) FW.evS xr0_1 v0.cache, FW.orow xd0_3 xc0_3 52 3 ApiFall.cells v0.falls]) (I2 := []) (js := [3, 3, 3, 3]) hk rfl
    exact FW.fretH1 hk rfl (FW.rtmp hk rfl) ⟨xd0_0, xc0_0, xr0_1, xd0_3, xc0_3, rfl, rfl⟩
  refine wp_skip ?_
  (repeat first | refine FW.then_normal ?_ | refine FW.block_normal ?_); refine hK2 _ _ ?_
  refine FW.wseq ?_; intro K' hK7
  refine FW.wreg ?_; intro K' hK8
  refine FW.lfun (y := .lit (.pointer (some ⟨b0, 0, none⟩))) hk rfl rfl rfl rfl (FW.f_move hk (FW.holds_nil _) rfl) ?_; clear hk; intro a w hk
  obtain ⟨t2, hr_t2, h⟩ := FW.bnd h
  refine FW.l_callH (I1 := (ODevDev.items b0 xd0_0 xc0_0 xr0_1 xd0_3 xc0_3 v0)) (I2 := []) (js := [3, 3, 3, 3]) hk rfl rfl rfl rfl rfl Go.Proofs.Tryz.func79 rfl (by kernel_rfl) (dev_Dev_step.ok K v0 _ hr_t2 b0 xd0_0 xc0_0 xr0_1 xd0_3 xc0_3) ?_; clear hk
  rintro _ _ ⟨zd1, zc1, zr1, zd2, zc2, rfl, rfl⟩ a w hk
  refine FW.lfun (y := .lit (.int .i64 t2.1)) hk rfl rfl rfl rfl (FW.f_assign hk (FW.holds_nil _) rfl) ?_; clear hk; intro a w hk
  refine FW.lend (hK8 _ _ ?_); clear hK8 K'
  refine FW.wreg ?_; intro K' hK9
  refine FW.lfun (y := .lit (.int .i64 t2.1)) hk rfl rfl rfl rfl (FW.f_move hk (FW.holds_nil _) rfl) ?_; clear hk; intro a w hk
  refine FW.lfun (y := .lit (.bool (!decide (t2.1 = 0)))) hk rfl rfl rfl rfl ((FW.f_pure (FW.p_neq hk.kn (FW.holds_nil _) rfl rfl))) ?_; clear hk; intro a w hk
  refine FW.lend (hK9 _ _ ?_); clear hK9 K'
  refine FW.wcondF (b := (!decide (t2.1 = 0))) hk h rfl (fun h hb => ?_) (fun h hb => ?_)
  · skip
    refine FW.wreg ?_; intro K' hK10
    refine FW.lfun (y := .lit (.int .i64 t2.1)) hk rfl rfl rfl rfl (FW.f_move hk (FW.holds_nil _) rfl) ?_; clear hk; intro a w hk
    refine FW.lfun (y := .lit (.int .i64 t2.1)) hk rfl rfl rfl rfl (FW.f_assign hk (FW.holds_nil _) rfl) ?_; clear hk; intro a w hk
    refine FW.lend (hK10 _ _ ?_); clear hK10 K'
    refine wp_ret ?_
    (repeat first | refine FW.then_ret ?_ | refine FW.block_ret ?_)
    obtain rfl := Option.some.inj h
    replace hk := FW.S.keep (I1 := [FW.blk b0 75 ([.lit (.slice zd1 (List.length t2.2.sure) zc1), .lit (.map (some zr1)), .lit (.int .i64 t2.2.steps), .lit (.slice zd2 (List.length t2.2.falls) zc2), .lit (.bool t2.2.off)]), FW.orow zd1 zc1 9 1 c_str t2.2.sure, FW.mapI (.int .i64) (Value.int .i64) FW.evS zr1 t2.2.cache, FW.orow zd2 zc2 52 3 ApiFall.cells t2.2.falls]) (I2 := []) (js := [3, 3, 3, 3]) hk rfl
    exact FW.fretH1 hk rfl (FW.rtmp hk rfl) ⟨zd1, zc1, zr1, zd2, zc2, rfl, rfl⟩
  refine wp_skip ?_
  (repeat first | refine FW.then_normal ?_ | refine FW.block_normal ?_); refine hK7 _ _ ?_
  refine FW.wreg ?_; intro K' hK11
  refine FW.lfun (y := .lit (.pointer (some ⟨b0, 0, none⟩))) hk rfl rfl rfl rfl (FW.f_move hk (FW.holds_nil _) rfl) ?_; clear hk; intro a w hk
  refine FW.lfun (y := .lit (.pointer (some ⟨b0, 0, none⟩))) hk rfl rfl rfl rfl ((FW.f_pure (FW.p_nilCheck hk.kn (FW.holds_nil _) rfl))) ?_; clear hk; intro a w hk
  refine FW.lfun (y := .lit (.pointer (some ⟨b0, 1, none⟩))) hk rfl rfl rfl rfl (FW.f_fieldPtr hk (FW.holds_nil _) rfl Go.Proofs.Tryz.underlying75 rfl (by kernel_rfl) rfl) ?_; clear hk; intro a w hk
  refine FW.lfun (y := .lit (.map (some zr1))) hk rfl rfl rfl rfl (FW.f_loadBlk1 hk (FW.holds_nil _) (j := 0) rfl rfl Go.Proofs.Tryz.underlying73 rfl rfl) ?_; clear hk; intro a w hk
  refine FW.lfun (y := .lit (.int .i64 v1)) hk rfl rfl rfl rfl (FW.f_move hk (FW.holds_nil _) rfl) ?_; clear hk; intro a w hk
  refine FW.lfun (y := .lit (.string (FW.B v2))) hk rfl rfl rfl rfl (FW.f_move hk (FW.holds_nil _) rfl) ?_; clear hk; intro a w hk
  refine FW.l_mapUpdate (ev := FW.evS) (I' := [FW.blk b0 75 ([.lit (.slice zd1 (List.length t2.2.sure) zc1), .lit (.map (some zr1)), .lit (.int .i64 t2.2.steps), .lit (.slice zd2 (List.length t2.2.falls) zc2), .lit (.bool t2.2.off)]), FW.orow zd1 zc1 9 1 c_str t2.2.sure, FW.mapI (.int .i64) (Value.int .i64) FW.evS zr1 (FW.mput t2.2.cache v1 v2), FW.orow zd2 zc2 52 3 ApiFall.cells t2.2.falls]) (j := 2) hk rfl rfl rfl rfl Go.Proofs.Tryz.underlying73 Go.Proofs.Tryz.underlying3 rfl ?_; clear hk; intro w hk
  refine FW.lend (hK11 _ _ ?_); clear hK11 K'
  refine FW.wreg ?_; intro K' hK12
  refine FW.lfun (y := .lit (.int .i64 0)) hk rfl rfl rfl rfl (FW.f_assign hk (FW.holds_nil _) rfl) ?_; clear hk; intro a w hk
  refine FW.lend (hK12 _ _ ?_); clear hK12 K'
  refine wp_ret ?_
  (repeat first | refine FW.then_ret ?_ | refine FW.block_ret ?_)
  obtain rfl := Option.some.inj h
  replace hk := FW.S.keep (I1 := [FW.blk b0 75 ([.lit (.slice zd1 (List.length t2.2.sure) zc1), .lit (.map (some zr1)), .lit (.int .i64 t2.2.steps), .lit (.slice zd2 (List.length t2.2.falls) zc2), .lit (.bool t2.2.off)]), FW.orow zd1 zc1 9 1 c_str t2.2.sure, FW.mapI (.int .i64) (Value.int .i64) FW.evS zr1 (FW.mput t2.2.cache v1 v2), FW.orow zd2 zc2 52 3 ApiFall.cells t2.2.falls]) (I2 := []) (js := [3, 3, 3, 3]) hk rfl
  exact FW.fretH1 hk rfl (FW.rtmp hk rfl) ⟨zd1, zc1, zr1, zd2, zc2, rfl, rfl⟩
theorem dev_Dev_Plan.ok  (v0 : ODevDev) (v1 : List ApiFall) (r : ODevDev) (h : dev_Dev_Plan.f v0 v1 = some r) :
    ∀ (b0 : Nat) (xd0_0 : Option Addr) (xc0_0 : Nat) (xr0_1 : Nat) (xd0_3 : Option Addr) (xc0_3 : Nat), FW.OkH Go.Proofs.Tryz.prog 24 [.lit (.pointer (some ⟨b0, 0, none⟩)), .row (r_ApiFall_cells v1)] (ODevDev.items b0 xd0_0 xc0_0 xr0_1 xd0_3 xc0_3 v0) (fun y I => ∃ (zxd0_0 : Option Addr) (zxc0_0 : Nat) (zxr0_1 : Nat) (zxd0_3 : Option Addr) (zxc0_3 : Nat), y = .tup [] ∧ I = ODevDev.items b0 zxd0_0 zxc0_0 zxr0_1 zxd0_3 zxc0_3 r) := by
  intro b0 xd0_0 xc0_0 xr0_1 xd0_3 xc0_3
  refine FW.enterH (xs := [.lit (.pointer (some ⟨b0, 0, none⟩)), .row (r_ApiFall_cells v1)]) Go.Proofs.Tryz.func24 rfl Go.Proofs.Tryz.ntmps24 rfl ?_
  intro M w0 a hk
  replace hk : FW.S M w0 a w0.toWorld 11 [FW.blk b0 75 ([.lit (.slice xd0_0 (List.length v0.sure) xc0_0), .lit (.map (some xr0_1)), .lit (.int .i64 v0.steps), .lit (.slice xd0_3 (List.length v0.falls) xc0_3), .lit (.bool v0.off)]), FW.orow xd0_0 xc0_0 9 1 c_str v0.sure, FW.mapI (.int .i64) (Value.int .i64) FW.evS xr0_1 v0.cache, FW.orow xd0_3 xc0_3 52 3 ApiFall.cells v0.falls] [(0, [], .lit (.pointer (some ⟨b0, 0, none⟩))), (1, [], .row (r_ApiFall_cells v1))] := hk
  unfold dev_Dev_Plan.f at h
  refine FW.wreg ?_; intro K' hK1
  refine FW.lfun (y := .lit (.pointer (some ⟨b0, 0, none⟩))) hk rfl rfl rfl rfl (FW.f_move hk (FW.holds_nil _) rfl) ?_; clear hk; intro a w hk
  refine FW.lfun (y := .lit (.bool true)) hk rfl rfl rfl rfl ((FW.f_pure (FW.p_ptrNe Go.Proofs.Tryz.underlying24 hk.kn (FW.holds_nil _) rfl rfl rfl))) ?_; clear hk; intro a w hk
  refine FW.lend (hK1 _ _ ?_); clear hK1 K'
  refine FW.wcondT hk rfl ?_
  refine FW.wreg1 ?_
  refine FW.lfun (y := .lit (.pointer (some ⟨b0, 0, none⟩))) hk rfl rfl rfl rfl (FW.f_move hk (FW.holds_nil _) rfl) ?_; clear hk; intro a w hk
  refine FW.lfun (y := .row (r_ApiFall_cells v1)) hk rfl rfl rfl rfl (FW.f_move hk (FW.holds_nil _) rfl) ?_; clear hk; intro a w hk
  obtain ⟨hc1, h⟩ := FW.chk h
  refine FW.l_callH (I1 := ([] : List FW.It)) (I2 := [FW.blk b0 75 ([.lit (.slice xd0_0 (List.length v0.sure) xc0_0), .lit (.map (some xr0_1)), .lit (.int .i64 v0.steps), .lit (.slice xd0_3 (List.length v0.falls) xc0_3), .lit (.bool v0.off)]), FW.orow xd0_0 xc0_0 9 1 c_str v0.sure, FW.mapI (.int .i64) (Value.int .i64) FW.evS xr0_1 v0.cache, FW.orow xd0_3 xc0_3 52 3 ApiFall.cells v0.falls]) (js := []) hk rfl rfl rfl rfl rfl Go.Proofs.Tryz.func43 rfl (by kernel_rfl) (fallsClone.ok v1 hc1) ?_; clear hk
  rintro _ _ ⟨zd1, zc1, rfl, rfl⟩ a w hk
  refine FW.lfun (y := .lit (.pointer (some ⟨b0, 0, none⟩))) hk rfl rfl rfl rfl ((FW.f_pure (FW.p_nilCheck hk.kn (FW.holds_nil _) rfl))) ?_; clear hk; intro a w hk
  refine FW.lfun (y := .lit (.pointer (some ⟨b0, 3, none⟩))) hk rfl rfl rfl rfl (FW.f_fieldPtr hk (FW.holds_nil _) rfl Go.Proofs.Tryz.underlying75 rfl (by kernel_rfl) rfl) ?_; clear hk; intro a w hk
  refine FW.l_store (I' := [FW.orow zd1 zc1 52 3 ApiFall.cells v1, FW.blk b0 75 ([.lit (.slice xd0_0 (List.length v0.sure) xc0_0), .lit (.map (some xr0_1)), .lit (.int .i64 v0.steps), .lit (.slice zd1 (List.length v1) zc1), .lit (.bool v0.off)]), FW.orow xd0_0 xc0_0 9 1 c_str v0.sure, FW.mapI (.int .i64) (Value.int .i64) FW.evS xr0_1 v0.cache, FW.orow xd0_3 xc0_3 52 3 ApiFall.cells v0.falls]) (cs' := [.lit (.slice xd0_0 (List.length v0.sure) xc0_0), .lit (.map (some xr0_1)), .lit (.int .i64 v0.steps), .lit (.slice zd1 (List.length v1) zc1), .lit (.bool v0.off)]) (j := 1) hk rfl rfl rfl rfl rfl (by kernel_rfl) rfl rfl ?_; clear hk; intro w hk
  refine wpList_nil ?_
  (repeat first | refine FW.then_normal ?_ | refine FW.block_normal ?_)
  refine FW.fnorm ?_
  obtain rfl := Option.some.inj h
  replace hk := FW.S.keep (I1 := [FW.blk b0 75 ([.lit (.slice xd0_0 (List.length v0.sure) xc0_0), .lit (.map (some xr0_1)), .lit (.int .i64 v0.steps), .lit (.slice zd1 (List.length v1) zc1), .lit (.bool v0.off)]), FW.orow xd0_0 xc0_0 9 1 c_str v0.sure, FW.mapI (.int .i64) (Value.int .i64) FW.evS xr0_1 v0.cache, FW.orow zd1 zc1 52 3 ApiFall.cells v1]) (I2 := [FW.orow xd0_3 xc0_3 52 3 ApiFall.cells v0.falls]) (js := [0, 3, 3, 3]) hk rfl
  exact FW.fretH0 hk rfl ⟨xd0_0, xc0_0, xr0_1, zd1, zc1, rfl, rfl⟩
theorem dev_New.ok (K : Nat) (v0 : Int) (r : ODevDev × Int) (h : dev_New.f K v0 = some r) :
    FW.OkH Go.Proofs.Tryz.prog 27 [.lit (.int .i64 v0)] [] (fun y I => ∃ (bn0 : Nat) (zxdn0_0 : Option Addr) (zxcn0_0 : Nat) (zxrn0_1 : Nat) (zxdn0_3 : Option Addr) (zxcn0_3 : Nat), y = .tup [.lit (.pointer (some ⟨bn0, 0, none⟩)), .lit (.int .i64 r.2)] ∧ I = (ODevDev.items bn0 zxdn0_0 zxcn0_0 zxrn0_1 zxdn0_3 zxcn0_3 r.1)) := by
  refine FW.enterH (xs := [.lit (.int .i64 v0)]) Go.Proofs.Tryz.func27 rfl Go.Proofs.Tryz.ntmps27 rfl ?_
  intro M w0 a hk
  unfold dev_New.f at h
  refine FW.wreg ?_; intro K' hK1
  refine FW.lfun (y := .lit (.pointer none)) hk rfl rfl rfl rfl (FW.f_assign hk (FW.holds_nil _) rfl) ?_; clear hk; intro a w hk
  refine FW.lfun (y := .lit (.int .i64 0)) hk rfl rfl rfl rfl (FW.f_assign hk (FW.holds_nil _) rfl) ?_; clear hk; intro a w hk
  refine FW.lend (hK1 _ _ ?_); clear hK1 K'
  refine FW.wseq ?_; intro K' hK2
  refine FW.wreg ?_; intro K' hK3
  refine FW.lfun (y := .lit (.int .i64 v0)) hk rfl rfl rfl rfl (FW.f_move hk (FW.holds_nil _) rfl) ?_; clear hk; intro a w hk
  refine FW.lfun (y := .lit (.bool (decide (v0 < 0)))) hk rfl rfl rfl rfl ((FW.f_pure (FW.p_lss hk.kn (FW.holds_nil _) rfl rfl))) ?_; clear hk; intro a w hk
  refine FW.lfun (y := .lit (.bool (decide (v0 < 0)))) hk rfl rfl rfl rfl (FW.f_move hk (FW.holds_nil _) rfl) ?_; clear hk; intro a w hk
  refine FW.lfunG (y := .lit (.int .i64 v0)) hk rfl rfl rfl rfl rfl rfl rfl rfl (fun hc => FW.f_move hk hc rfl) ?_; clear hk; intro a w hk
  refine FW.lfunG (y := .lit (.bool (decide (65536 < v0)))) hk rfl rfl rfl rfl rfl rfl rfl rfl (fun hc => (FW.f_pure (FW.p_gtr hk.kn hc rfl rfl))) ?_; clear hk; intro a w hk
  refine FW.lfun (y := .lit (.bool ((decide (v0 < 0)) || (decide (65536 < v0))))) hk rfl rfl rfl rfl ((FW.f_pure (FW.p_pick_or hk.kn (FW.holds_nil _) rfl rfl))) ?_; clear hk; intro a w hk
  refine FW.lend (hK3 _ _ ?_); clear hK3 K'
  refine FW.wcondF (b := ((decide (v0 < 0)) || (decide (65536 < v0)))) hk h rfl (fun h hb => ?_) (fun h hb => ?_)
  · skip
    cases h
  refine wp_skip ?_
  (repeat first | refine FW.then_normal ?_ | refine FW.block_normal ?_); refine hK2 _ _ ?_
  refine FW.wreg ?_; intro K' hK4
  refine FW.lfun (y := .lit (.int .i64 v0)) hk rfl rfl rfl rfl (FW.f_move hk (FW.holds_nil _) rfl) ?_; clear hk; intro a w hk
  obtain ⟨hc1, h⟩ := FW.chk h
  refine FW.l_makeSliceN (zv := (.string ⟨#[]⟩)) (f := c_str) (z := ([] : List UInt8)) (sz := 1) (by decide) (fun _ => rfl) hk rfl rfl rfl rfl Go.Proofs.Tryz.underlying72 (by kernel_rfl) (fun _ _ => FW.repL_cons (FW.rep_lit rfl) FW.repL_nil) (by kernel_rfl) hc1 ?_; clear hk; intro bx1 a w hk
  refine FW.l_makeMap (κ := Int) (ν := List UInt8) (D := .int .i64) (ek := Value.int .i64) (ev := FW.evS) hk rfl rfl FW.keyI64 ?_; clear hk; intro r1 a w hk
  replace hk := hk.nilRow 52 3 ApiFall.cells (fun _ => rfl)
  refine FW.lfun (y := .agg ([.lit (.slice (some ⟨bx1, 0, none⟩) (List.length (List.replicate (Int.toNat v0) ([] : List UInt8))) (Int.toNat v0)), .lit (.map (some r1)), .lit (.int .i64 0), .lit (.slice none (List.length ([] : List ApiFall)) 0), .lit (.bool false)])) hk rfl rfl rfl rfl (FW.f_buildN [3] hk (FW.holds_nil _) rfl rfl rfl) ?_; clear hk; intro a w hk
  refine FW.l_box (cs := [.lit (.slice (some ⟨bx1, 0, none⟩) (List.length (List.replicate (Int.toNat v0) ([] : List UInt8))) (Int.toNat v0)), .lit (.map (some r1)), .lit (.int .i64 0), .lit (.slice none (List.length ([] : List ApiFall)) 0), .lit (.bool false)]) hk rfl rfl rfl rfl rfl ?_; clear hk; intro bx2 a w hk
  refine FW.lfun (y := .lit (.pointer (some ⟨bx2, 0, none⟩))) hk rfl rfl rfl rfl (FW.f_assign hk (FW.holds_nil _) rfl) ?_; clear hk; intro a w hk
  refine FW.lend (hK4 _ _ ?_); clear hK4 K'
  refine FW.wseq ?_; intro K' hK5
  refine FW.wreg ?_; intro K' hK6
  refine FW.lfun (y := .lit (.pointer (some ⟨bx2, 0, none⟩))) hk rfl rfl rfl rfl (FW.f_move hk (FW.holds_nil _) rfl) ?_; clear hk; intro a w hk
  refine FW.lfun (y := .lit (.pointer (some ⟨bx2, 0, none⟩))) hk rfl rfl rfl rfl ((FW.f_pure (FW.p_nilCheck hk.kn (FW.holds_nil _) rfl))) ?_; clear hk; intro a w hk
  refine FW.lfun (y := .lit (.pointer (some ⟨bx2, 0, none⟩))) hk rfl rfl rfl rfl (FW.f_fieldPtr hk (FW.holds_nil _) rfl Go.Proofs.Tryz.underlying75 rfl (by kernel_rfl) rfl) ?_; clear hk; intro a w hk
  refine FW.lfun (y := .lit (.slice (some ⟨bx1, 0, none⟩) (List.length (List.replicate (Int.toNat v0) ([] : List UInt8))) (Int.toNat v0))) hk rfl rfl rfl rfl (FW.f_loadBlk1 hk (FW.holds_nil _) (j := 0) rfl rfl Go.Proofs.Tryz.underlying72 rfl rfl) ?_; clear hk; intro a w hk
  refine FW.lfun (y := .lit (.int .i64 (List.length (List.replicate (Int.toNat v0) ([] : List UInt8)) : Int))) hk rfl rfl rfl rfl ((FW.f_pure (FW.p_len Go.Proofs.Tryz.underlying72 hk.kn (FW.holds_nil _) rfl))) ?_; clear hk; intro a w hk
  refine FW.lfun (y := .lit (.int .i64 0)) hk rfl rfl rfl rfl (FW.f_move hk (FW.holds_nil _) rfl) ?_; clear hk; intro a w hk
  refine FW.lend (hK6 _ _ ?_); clear hK6 K'
  refine wp_block ?_
  refine FW.wloop (T := Nat × Int × Bool × List (List UInt8) × Int × Int × Option Addr × Nat) (fun x a w => match x with | (kl1, y4_2, y4_4, l1, v21, v22, xd1, xc1) => FW.S M w0 a w 34 [FW.blk bx2 75 ([.lit (.slice xd1 (List.length l1) xc1), .lit (.map (some r1)), .lit (.int .i64 y4_2), .lit (.slice none (List.length ([] : List ApiFall)) 0), .lit (.bool y4_4)]), FW.orow none 0 52 3 ApiFall.cells ([] : List ApiFall), FW.mapI (.int .i64) (Value.int .i64) FW.evS r1 ([] : List (Int × (List UInt8))), FW.orow xd1 xc1 9 1 c_str l1] [(4, [], .lit (.pointer (some ⟨bx2, 0, none⟩))), (21, [], .lit (.int .i64 v21)), (22, [], .lit (.int .i64 v22))] ∧ dev_New.l1 K kl1 y4_2 y4_4 l1 v21 v22 = some r) (fun x => x.1) (K, 0, false, (List.replicate (Int.toNat v0) ([] : List UInt8)), (List.length (List.replicate (Int.toNat v0) ([] : List UInt8)) : Int), 0, (some ⟨bx1, 0, none⟩), (Int.toNat v0)) ⟨hk.sub ⟨rfl, rfl, rfl, trivial⟩, h⟩ ?_
  clear hk h
  rintro ⟨kl1, y4_2, y4_4, l1, v21, v22, xd1, xc1⟩ a w ⟨hk, h⟩ K' hK7
  cases kl1 with
  | zero => simp [dev_New.l1] at h
  | succ kl1 =>
  rw [dev_New.l1.eq_2] at h
  refine FW.wreg ?_; intro K' hK8
  refine FW.lfun (y := .lit (.bool (decide (v22 < v21)))) hk rfl rfl rfl rfl ((FW.f_pure (FW.p_lss hk.kn (FW.holds_nil _) rfl rfl))) ?_; clear hk; intro a w hk
  refine FW.lend (hK8 _ _ ?_); clear hK8 K'
  refine FW.wseq ?_; intro K' hK9
  refine FW.wcondF (b := (decide (v22 < v21))) hk h rfl (fun h hb => ?_) (fun h hb => ?_)
  · skip
    refine wp_skip ?_
    (repeat first | refine FW.then_normal ?_ | refine FW.block_normal ?_); refine hK9 _ _ ?_
    refine FW.wseq ?_; intro K' hK10
    refine wp_block ?_
    refine FW.wreg ?_; intro K' hK11
    refine FW.lfun (y := .lit (.int .i64 v22)) hk rfl rfl rfl rfl (FW.f_move hk (FW.holds_nil _) rfl) ?_; clear hk; intro a w hk
    refine FW.lfun (y := .lit (.int .i64 v22)) hk rfl rfl rfl rfl (FW.f_assign hk (FW.holds_nil _) rfl) ?_; clear hk; intro a w hk
    refine FW.lend (hK11 _ _ ?_); clear hK11 K'
    obtain ⟨t1, hr_t1, h⟩ := FW.bnd h
    obtain ⟨hc2, h⟩ := FW.chk h
    refine FW.wdrawE1 (.next [true, true, true, true, true, true, true, false] 7 [true, true, true, true, true, true, true, false] (.leaf [false, false, false, false, false, false, false, false])) [(25, [], .lit (.pointer (some ⟨bx2, 0, none⟩))), (26, [], .lit (.pointer (some ⟨bx2, 0, none⟩))), (27, [], .lit (.pointer (some ⟨bx2, 0, none⟩))), (28, [], .lit (.slice xd1 (List.length l1) xc1)), (29, [], .lit (.int .i64 v22)), (30, [], .lit (.string (FW.B t1))), (31, [], FW.elA xd1 1 v22), (34, [], .lit undef)] (by kernel_rfl) (by kernel_rfl) (by kernel_rfl) (by kernel_rfl) hk ?_; clear hk
    refine FW.gnext0 ?_ rfl rfl rfl ?_
    · skip
      refine FW.gfun (y := .lit (.pointer (some ⟨bx2, 0, none⟩))) rfl rfl rfl rfl (fun a w hk => FW.f_move hk (FW.holds_nil _) rfl) ?_
      refine FW.gfun (y := .lit (.pointer (some ⟨bx2, 0, none⟩))) rfl rfl rfl rfl (fun a w hk => (FW.f_pure (FW.p_nilCheck hk.kn (FW.holds_nil _) rfl))) ?_
      refine FW.gfun (y := .lit (.pointer (some ⟨bx2, 0, none⟩))) rfl rfl rfl rfl (fun a w hk => FW.f_fieldPtr hk (FW.holds_nil _) rfl Go.Proofs.Tryz.underlying75 rfl (by kernel_rfl) rfl) ?_
      refine FW.gfun (y := .lit (.slice xd1 (List.length l1) xc1)) rfl rfl rfl rfl (fun a w hk => FW.f_loadBlk1 hk (FW.holds_nil _) (j := 0) rfl rfl Go.Proofs.Tryz.underlying72 rfl rfl) ?_
      refine FW.gfun (y := .lit (.int .i64 v22)) rfl rfl rfl rfl (fun a w hk => FW.f_move hk (FW.holds_nil _) rfl) ?_
      refine FW.gfun (y := .lit (.string (FW.B t1))) rfl rfl rfl rfl (fun a w hk => FW.f_call hk (FW.holds_nil _) rfl rfl Go.Proofs.Tryz.func46 rfl (by kernel_rfl) (strings_Repeat.ok ([0] : List UInt8) 128 _ hr_t1)) ?_
      refine FW.gfun (y := FW.elA xd1 1 v22) rfl rfl rfl rfl (fun a w hk => FW.f_idxOwn (f := c_str) (l := l1) hk (FW.holds_nil _) (j := 3) rfl rfl (by first | rfl | simp only [List.length_set]) rfl Go.Proofs.Tryz.underlying72 (by kernel_rfl) hc2) ?_
      refine FW.gskip0 rfl ?_
      exact FW.gend
    · skip
      intro σD a w opsD QD hk hQ hX
      refine FW.l_storeOwn1 (f := c_str) (l := l1) (v := t1) (I' := [FW.blk bx2 75 ([.lit (.slice xd1 (List.length l1) xc1), .lit (.map (some r1)), .lit (.int .i64 y4_2), .lit (.slice none (List.length ([] : List ApiFall)) 0), .lit (.bool y4_4)]), FW.orow none 0 52 3 ApiFall.cells ([] : List ApiFall), FW.mapI (.int .i64) (Value.int .i64) FW.evS r1 ([] : List (Int × (List UInt8))), FW.orow xd1 xc1 9 1 c_str (List.set l1 (Int.toNat v22) t1)]) (j := 3) hk rfl rfl hc2 rfl rfl rfl rfl (by kernel_rfl) rfl ?_; clear hk; intro w hk
      refine hQ _ a w ?_ hk; clear hk hQ hX
      refine ⟨[(25, [], .lit (.pointer (some ⟨bx2, 0, none⟩))), (26, [], .lit (.pointer (some ⟨bx2, 0, none⟩))), (27, [], .lit (.pointer (some ⟨bx2, 0, none⟩))), (28, [], .lit (.slice xd1 (List.length l1) xc1)), (29, [], .lit (.int .i64 v22)), (30, [], .lit (.string (FW.B t1))), (31, [], FW.elA xd1 1 v22), (34, [], .lit undef)], And.intro rfl (And.intro rfl (And.intro rfl (And.intro rfl (And.intro rfl (And.intro rfl (And.intro rfl (trivial))))))), rfl, ?_⟩
      refine FW.glast ?_ ?_
      · skip
        refine FW.gskip rfl rfl ?_
        refine FW.gskip rfl rfl ?_
        refine FW.gskip rfl rfl ?_
        refine FW.gskip rfl rfl ?_
        refine FW.gskip rfl rfl ?_
        refine FW.gskip rfl rfl ?_
        refine FW.gskip rfl rfl ?_
        refine FW.gskip0 rfl ?_
        exact FW.gend
      · skip
        intro a w hk; simp only [FW.stD, cond_true] at hk
        (repeat first | refine FW.then_normal ?_ | refine FW.block_normal ?_); refine hK10 _ _ ?_
        refine FW.wreg1 ?_
        refine FW.lfun (y := .lit (.int .i64 (IntKind.wrap .i64 (v22 + 1)))) hk rfl rfl rfl rfl ((FW.f_pure (FW.p_add hk.kn (FW.holds_nil _) rfl rfl))) ?_; clear hk; intro a w hk
        refine FW.lfun (y := .lit (.int .i64 (IntKind.wrap .i64 (v22 + 1)))) hk rfl rfl rfl rfl (FW.f_move hk (FW.holds_nil _) rfl) ?_; clear hk; intro a w hk
        refine wpList_nil ?_
        replace hk := FW.S.cast (I' := [FW.blk bx2 75 ([.lit (.slice xd1 (List.length (List.set l1 (Int.toNat v22) t1)) xc1), .lit (.map (some r1)), .lit (.int .i64 y4_2), .lit (.slice none (List.length ([] : List ApiFall)) 0), .lit (.bool y4_4)]), FW.orow none 0 52 3 ApiFall.cells ([] : List ApiFall), FW.mapI (.int .i64) (Value.int .i64) FW.evS r1 ([] : List (Int × (List UInt8))), FW.orow xd1 xc1 9 1 c_str (List.set l1 (Int.toNat v22) t1)]) hk (by first | rfl | simp only [List.length_set]) rfl
        (repeat first | refine FW.then_normal ?_ | refine FW.block_normal ?_); exact hK7 (kl1, y4_2, y4_4, (List.set l1 (Int.toNat v22) t1), v21, (IntKind.wrap .i64 (v22 + 1)), xd1, xc1) _ _ (Nat.lt_succ_self _) ⟨hk.sub ⟨rfl, rfl, rfl, trivial⟩, h⟩
  refine wp_exit ?_; (repeat first | refine FW.then_exit ?_ | refine FW.block_exit_ne rfl ?_); refine FW.block_exit ?_
  (repeat first | refine FW.then_normal ?_ | refine FW.block_normal ?_); refine hK5 _ _ ?_
  refine FW.wreg ?_; intro K' hK14
  refine FW.lfun (y := .lit (.pointer (some ⟨bx2, 0, none⟩))) hk rfl rfl rfl rfl (FW.f_move hk (FW.holds_nil _) rfl) ?_; clear hk; intro a w hk
  refine FW.lfun (y := .lit (.pointer (some ⟨bx2, 0, none⟩))) hk rfl rfl rfl rfl (FW.f_assign hk (FW.holds_nil _) rfl) ?_; clear hk; intro a w hk
  refine FW.lfun (y := .lit (.int .i64 0)) hk rfl rfl rfl rfl (FW.f_assign hk (FW.holds_nil _) rfl) ?_; clear hk; intro a w hk
  refine FW.lend (hK14 _ _ ?_); clear hK14 K'
  refine wp_ret ?_
  (repeat first | refine FW.then_ret ?_ | refine FW.block_ret ?_)
  obtain rfl := Option.some.inj h
  replace hk := FW.S.keep (I1 := [FW.blk bx2 75 ([.lit (.slice xd1 (List.length l1) xc1), .lit (.map (some r1)), .lit (.int .i64 y4_2), .lit (.slice none (List.length ([] : List ApiFall)) 0), .lit (.bool y4_4)]), FW.orow xd1 xc1 9 1 c_str l1, FW.mapI (.int .i64) (Value.int .i64) FW.evS r1 ([] : List (Int × (List UInt8))), FW.orow none 0 52 3 ApiFall.cells ([] : List ApiFall)]) (I2 := []) (js := [1, 2, 3, 3]) hk rfl
  exact FW.fretH2 hk rfl (FW.rtmp hk rfl) (FW.rtmp hk rfl) ⟨bx2, xd1, xc1, r1, none, 0, rfl, rfl⟩
end Go.Proofs.YtfbkgaandmebaaaGreat
namespace Go.Proofs.YtfbkgaandmebaaaGreat
open Go.RowKit Go.MapKept
open Go.ChangeMaps (setBlock)
set_option linter.unusedVariables false
set_option linter.unusedSectionVars false
set_option maxRecDepth 20000
set_option maxHeartbeats 10000000
def flushS (sure : List (List UInt8)) (m : List (Int × List UInt8)) : List (List UInt8) := m.foldl (fun s p => s.set p.1.toNat p.2) sure
def flushOk (sure : List (List UInt8)) (m : List (Int × List UInt8)) : Bool := m.all fun p => decide (0 ≤ p.1) && decide (p.1 < (sure.length : Int))
def dev_Dev_Flush.f (K : Nat) (v0 : ODevDev) : Option (Int × ODevDev) :=
  (Option.bind (dev_Dev_Off.f v0) fun t1 => (if t1 = true then some (7, v0) else (Option.bind (dev_Dev_step.f K v0) fun t2 => (if (!decide (t2.1 = 0)) = true then some (t2.1, t2.2) else (if flushOk t2.2.sure t2.2.cache = true then some (0, (⟨flushS t2.2.sure t2.2.cache, [], t2.2.steps, t2.2.falls, t2.2.off⟩ : ODevDev)) else none)))))
namespace FW
def kOf (e : MapEntry) : Int := match e.key with | .int _ n => n | _ => 0
def vOf (e : MapEntry) : List UInt8 := match e.val with | .string s => s.data.toList | _ => []
def laid (es : List MapEntry) (sure : List (List UInt8)) (p : MapEntry → Bool) : List (List UInt8) := (es.filter p).foldl (fun s e => s.set (kOf e).toNat (vOf e)) sure
theorem set_other (s : List (List UInt8)) (i j : Nat) (x y : List UInt8) (h : i ≠ j) : (s.set i x).set j y = (s.set j y).set i x := List.set_comm x y h
theorem laid_move : ∀ (es : List MapEntry) (sure : List (List UInt8)) (e : MapEntry) (p : MapEntry → Bool), (∀ x ∈ es, (kOf x).toNat ≠ (kOf e).toNat) → laid es (sure.set (kOf e).toNat (vOf e)) p = (laid es sure p).set (kOf e).toNat (vOf e)
  | [], sure, e, p, h => rfl
  | x :: es, sure, e, p, h => by
    have hx := h x List.mem_cons_self
    have ih := fun s => laid_move es s e p (fun y hy => h y (List.mem_cons_of_mem _ hy))
    unfold laid at ih ⊢
    rw [List.filter_cons]
    cases p x with
    | true =>
      simp only [if_true, List.foldl_cons]
      rw [set_other _ _ _ _ _ (Ne.symm hx)]
      exact ih _
    | false => simpa using ih sure
theorem laid_more : ∀ (es : List MapEntry) (sure : List (List UInt8)) (e : MapEntry) (p q : MapEntry → Bool), (es.map fun x => (kOf x).toNat).Nodup → e ∈ es → p e = false → q e = true → (∀ x ∈ es, x ≠ e → q x = p x) → laid es sure q = (laid es sure p).set (kOf e).toNat (vOf e)
  | [], sure, e, p, q, _, h, _, _, _ => by cases h
  | x :: es, sure, e, p, q, hn, he, hp, hq, hpq => by
    rw [List.map_cons, List.nodup_cons] at hn
    by_cases hx : x = e
    · subst hx
      have hne : ∀ y ∈ es, (kOf y).toNat ≠ (kOf x).toNat := fun y hy heq => hn.1 (by rw [← heq]; exact List.mem_map.2 ⟨y, hy, rfl⟩)
      have h1 : laid (x :: es) sure q = laid es (sure.set (kOf x).toNat (vOf x)) q := by unfold laid; rw [List.filter_cons, if_pos hq, List.foldl_cons]
      have h2 : laid (x :: es) sure p = laid es sure p := by unfold laid; rw [List.filter_cons, hp]; rfl
      rw [h1, h2, ← laid_move es sure x p hne]
      unfold laid
      rw [List.filter_congr fun y hy => hpq y (List.mem_cons_of_mem _ hy) fun hyx => hne y hy (by rw [hyx])]
    · have he' : e ∈ es := (List.mem_cons.1 he).resolve_left fun h => hx h.symm
      have hqx := hpq x List.mem_cons_self hx
      have ih := fun s => laid_more es s e p q hn.2 he' hp hq (fun y hy => hpq y (List.mem_cons_of_mem _ hy))
      unfold laid at ih ⊢
      rw [List.filter_cons, List.filter_cons, hqx]
      cases p x with
      | true => simp only [if_true, List.foldl_cons]; exact ih _
      | false => simpa using ih sure
theorem laid_len (es : List MapEntry) (sure : List (List UInt8)) (p : MapEntry → Bool) : (laid es sure p).length = sure.length := by
  unfold laid
  generalize es.filter p = l
  induction l generalizing sure with
  | nil => rfl
  | cons x l ih => rw [List.foldl_cons, ih, List.length_set]
def mapE (r : Nat) (m : List (Int × List UInt8)) (es : Array MapEntry) (clock : Nat) : It where
  foot := fun k => k = r
  P := fun _ w => MapP (.int .i64) (Value.int .i64) evS r m w es clock
  stable := fun _ _ _ hb h => ⟨(hb r rfl).trans h.at_, h.stamped, h.ents, h.key⟩
def iterI (b r clock : Nat) (seen : Array Nat) : It where
  foot := fun k => k = b
  P := fun _ w => w.heap[b]? = some (.mapIter (some r) clock seen clock)
  stable := fun _ _ _ hb h => (hb b rfl).trans h
section
variable {P : Program} {M : Nat → Prop} {w0 : Bs} {w : World} {a : Act} {n : Nat} {I : List It} {σ : St} {ty : TypeId} {pos : String} {aft : Array Edge} {x : Operand} {ops : Array Oper} {Q : Exit → Act → World → Prop} {rest : List Oper} {d j i b r clock : Nat} {m : List (Int × List UInt8)} {es : Array MapEntry} {seen : Array Nat} {t : TypeId} {D : TypeDesc}
theorem S.openMap (hk : S M w0 a w n I σ) (hj : I[j]? = some (mapI (.int .i64) (Value.int .i64) evS r m)) : ∃ es clock, S M w0 a w n (I.set j (mapE r m es clock)) σ := by
  obtain ⟨es, clock, h⟩ := hk.own.get hj
  exact ⟨es, clock, hk.conv hj (fun _ _ _ => h) fun _ h => h⟩
theorem S.closeMap (hk : S M w0 a w n I σ) (hj : I[j]? = some (mapE r m es clock)) : S M w0 a w n (I.set j (mapI (.int .i64) (Value.int .i64) evS r m)) σ :=
  hk.conv hj (fun _ _ h => ⟨es, clock, h⟩) fun _ h => h
theorem l_range (hk : S M w0 a w n I σ) (hj : I[j]? = some (mapE r m es clock)) (hn : Nat.blt d n = true) (hf : chFree σ d = true) (hx : opvc σ [] x = some (.lit (.map (some r)))) {kt vt : TypeId} (ht : P.underlying t = some (.map kt vt))
    (h : ∀ b a' w', S M w0 a' w' n (iterI b r clock #[] :: I) ((d, [], .lit (.pointer (some ⟨b, 0, none⟩))) :: σ) → wpList P ops Q rest a' w') :
    wpList P ops Q (⟨some d, .range t x, ty, pos, aft, none⟩ :: rest) a w := by
  have hm := hk.own.get hj
  have hr : (execOp a.eval ⟨some d, .range t x, ty, pos, aft, none⟩).run P w = .ok (.value (.pointer (some ⟨w.heap.size, 0, none⟩))) (w.alloc (.mapIter (some r) clock #[] clock)) := by
    simp [execOp, hk.kn.val (holds_nil a) hx, Instr.range, run_underlying ht, MapKept.run_getObj_map hm.at_]
  have hfoot : ∀ k, (iterI w.heap.size r clock #[]).foot k → w.heap.size ≤ k ∧ k < (w.alloc (.mapIter (some r) clock #[] clock)).heap.size := by
    intro k hk'
    have hk' : k = w.heap.size := hk'
    subst hk'
    simp
  exact leff hk rfl rfl hn hf hr (hk.push (it' := iterI w.heap.size r clock #[]) (New.alloc w _) (heap_alloc_new w _) hfoot) (rep_lit rfl) (fun a' hk' => h _ _ _ hk')
theorem l_next (hk : S M w0 a w n I σ) (hj : I[j]? = some (mapE r m es clock)) (hi : I[i]? = some (iterI b r clock seen)) (hn : Nat.blt d n = true) (hf : chFree σ d = true) (hx : opvc σ [] x = some (.lit (.pointer (some ⟨b, 0, none⟩))))
    (h0 : (leftOf es seen).size = 0 → ∀ a' w', S M w0 a' w' n I ((d, [], .tup [.lit (.bool false)]) :: σ) → wpList P ops Q rest a' w')
    (h1 : ∀ e ∈ (leftOf es seen).toList, ∀ a' w', S M w0 a' w' n (I.set i (iterI b r clock (seen.push e.born))) ((d, [], .tup [.lit (.bool true), .lit e.key, .lit e.val]) :: σ) → wpList P ops Q rest a' w') :
    wpList P ops Q (⟨some d, .next x false, ty, pos, aft, none⟩ :: rest) a w := by
  have hm := hk.own.get hj
  have hit : w.heap[b]? = some (.mapIter (some r) clock seen clock) := hk.own.get hi
  rcases run_next_at (P := P) w ty b r clock clock seen es clock hit hm.at_ hm.stamped.1 (Nat.le_refl _) with ⟨hs, hr⟩ | ⟨e, he, w1, hw1, hr⟩
  · have hr' : (execOp a.eval ⟨some d, .next x false, ty, pos, aft, none⟩).run P w = .ok (.value (.tuple #[.bool false])) w := by
      simp only [execOp, hk.kn.val (holds_nil a) hx, Sem.run_bind, hr, Result.andThen_ok, Sem.run_pure]
    exact leff hk rfl rfl hn hf hr' hk (by simp [Rep, RepL]) (fun a' hk' => h0 hs a' w hk')
  · have hr' : (execOp a.eval ⟨some d, .next x false, ty, pos, aft, none⟩).run P w = .ok (.value (.tuple #[.bool true, e.key, e.val])) (setBlock w1 b (.mapIter (some r) clock (seen.push e.born) clock)) := by
      simp only [execOp, hk.kn.val (holds_nil a) hx, Sem.run_bind, hr, Result.andThen_ok, Sem.run_pure]
    have hnew : New w w1 := by
      rcases hw1 with rfl | rfl
      · exact New.refl _
      · exact New.drewN w 1
    have hk1 := hk.fresh hnew
    have hit1 : w1.heap[b]? = some (.mapIter (some r) clock seen clock) := hk1.own.get hi
    have hfr : Frm (iterI b r clock seen).foot w1 (setBlock w1 b (.mapIter (some r) clock (seen.push e.born) clock)) := Frm.putObj w1 b _
    have hlt : b < w1.heap.size := heap_lt hit1
    have hk2 : S M w0 a (setBlock w1 b (.mapIter (some r) clock (seen.push e.born) clock)) n (I.set i (iterI b r clock (seen.push e.born))) σ :=
      hk1.upd hi hfr (heap_set hit1).1 fun k hk' => ⟨.inl hk', by
        have hk' : k = b := hk'
        subst hk'
        simpa [setBlock] using hlt⟩
    exact leff hk rfl rfl hn hf hr' hk2 (by simp [Rep, RepL]) (fun a' hk' => h1 e he a' _ hk')
theorem f_entry {g : Option (Nat × Bool)} {c : Ch} {dst : Option Tmp} {e : MapEntry} (hk : S M w0 a w n I σ) (hc : holds a c) (hj : I[j]? = some (mapE r m es clock)) (hi : I[i]? = some (iterI b r clock (seen.push e.born))) (he : e ∈ es.toList) (hx : opvc σ c x = some (.lit (.pointer (some ⟨b, 0, none⟩)))) :
    Fun P (okM M I) ⟨dst, .entry x, ty, pos, aft, g⟩ a w (.tup [.lit e.key, .lit e.val]) := by
  have hm := hk.own.get hj
  have hit : w.heap[b]? = some (.mapIter (some r) clock (seen.push e.born) clock) := hk.own.get hi
  refine .inl ⟨.tuple #[e.key, e.val], w, ?_, New.refl w, by simp [Rep, RepL]⟩
  simp only [execOp, hk.kn.val hc hx, Sem.run_bind, run_entry_at w b r clock seen es clock e hit hm.at_ he hm.stamped.2.1, Result.andThen_ok, Sem.run_pure]
theorem MapP.ent (h : MapP (.int .i64) (Value.int .i64) evS r m w es clock) {e : MapEntry} (he : e ∈ es.toList) : ∃ p ∈ m, e.key = .int .i64 p.1 ∧ e.val = .string (B p.2) ∧ kOf e = p.1 ∧ vOf e = p.2 := by
  have : (e.key, e.val) ∈ es.toList.map fun e => (e.key, e.val) := List.mem_map.2 ⟨e, he, rfl⟩
  rw [h.ents] at this
  obtain ⟨p, hp, hpe⟩ := List.mem_map.1 this
  injection hpe with h1 h2
  have h2' : e.val = .string (B p.2) := h2.symm
  exact ⟨p, hp, h1.symm, h2', by simp [kOf, ← h1], by simp [vOf, h2', B]⟩
theorem MapP.laidAll (h : MapP (.int .i64) (Value.int .i64) evS r m w es clock) (sure : List (List UInt8)) (p : MapEntry → Bool) (hp : ∀ e ∈ es.toList, p e = true) : laid es.toList sure p = flushS sure m := by
  unfold laid flushS
  rw [List.filter_eq_self.2 hp]
  have key : ∀ (l : List MapEntry) (m : List (Int × List UInt8)) (s : List (List UInt8)), (l.map fun e => (e.key, e.val)) = m.map (fun p => (Value.int .i64 p.1, evS p.2)) → l.foldl (fun s e => s.set (kOf e).toNat (vOf e)) s = m.foldl (fun s p => s.set p.1.toNat p.2) s := by
    intro l
    induction l with
    | nil => intro m s hm; cases m with | nil => rfl | cons => simp at hm
    | cons e l ih =>
      intro m s hm
      cases m with
      | nil => simp at hm
      | cons q m =>
        simp only [List.map_cons, List.cons.injEq, Prod.mk.injEq] at hm
        obtain ⟨⟨h1, h2⟩, h3⟩ := hm
        have e1 : kOf e = q.1 := by simp [kOf, h1]
        have e2 : vOf e = q.2 := by simp [vOf, h2, evS, B]
        rw [List.foldl_cons, List.foldl_cons, e1, e2]
        exact ih m _ h3
  exact key _ _ _ h.ents
theorem MapP.nodupN (h : MapP (.int .i64) (Value.int .i64) evS r m w es clock) (hpos : ∀ p ∈ m, 0 ≤ p.1) : (es.toList.map fun x => (kOf x).toNat).Nodup := by
  have h1 := h.nodup
  have h2 : (es.toList.map fun x => (kOf x).toNat) = (m.map (·.1)).map Int.toNat := by
    have := congrArg (List.map fun q : Value × Value => (match q.1 with | .int _ n => n | _ => (0 : Int)).toNat) h.ents
    simpa [Function.comp_def, kOf] using this
  rw [h2]
  refine List.pairwise_map.2 (h1.imp_of_mem ?_)
  intro x y hx hy hne he
  obtain ⟨p, hp, rfl⟩ := List.mem_map.1 hx
  obtain ⟨q, hq, rfl⟩ := List.mem_map.1 hy
  have := hpos p hp
  have := hpos q hq
  exact hne (by omega)
end
end FW
theorem flushOk_mem {sure : List (List UInt8)} {m : List (Int × List UInt8)} (h : flushOk sure m = true) {p : Int × List UInt8} (hp : p ∈ m) : 0 ≤ p.1 ∧ p.1 < (sure.length : Int) := by
  unfold flushOk at h
  rw [List.all_eq_true] at h
  simpa using h p hp
end Go.Proofs.YtfbkgaandmebaaaGreat
namespace Go.Proofs.YtfbkgaandmebaaaGreat
set_option linter.unusedVariables false
set_option maxRecDepth 20000
set_option maxHeartbeats 10000000
structure ApiBody where
  ID : Int
  S : List UInt8
  deriving Inhabited
def ApiBody.cells (x : ApiBody) : List FW.AV := [.lit (.int .u64 x.ID), .lit (.string (FW.B x.S))]
structure ApiChange where
  ID : Int
  S : List UInt8
  Gone : Bool
  deriving Inhabited
def ApiChange.cells (x : ApiChange) : List FW.AV := [.lit (.int .u64 x.ID), .lit (.string (FW.B x.S)), .lit (.bool x.Gone)]
def r_c_u64 (l : List Int) : List (List FW.AV) := l.map c_u64
theorem r_c_u64_eq : ∀ l, r_c_u64 l = l.map c_u64 := fun _ => rfl
def r_ApiChange_cells (l : List ApiChange) : List (List FW.AV) := l.map ApiChange.cells
theorem r_ApiChange_cells_eq : ∀ l, r_ApiChange_cells l = l.map ApiChange.cells := fun _ => rfl
def r_ApiBody_cells (l : List ApiBody) : List (List FW.AV) := l.map ApiBody.cells
theorem r_ApiBody_cells_eq : ∀ l, r_ApiBody_cells l = l.map ApiBody.cells := fun _ => rfl
structure OLogLog where
  from_ : Int
  to_ : Int
  at_ : Int
  next : Int
  deriving Inhabited
abbrev OLogLog.items (b : Nat) (p0 : Nat) (x : OLogLog) : List FW.It := [FW.blk b 99 [.lit (.pointer (some ⟨p0, 0, none⟩)), .lit (.int .i64 x.from_), .lit (.int .i64 x.to_), .lit (.int .i64 x.at_), .lit (.int .u64 x.next)]]
abbrev OMap67 := List (Int × (List UInt8))
abbrev OMap67.items (b : Nat) (xr_r : Nat) (x : OMap67) : List FW.It := [FW.mapI (.int .u64) (Value.int .u64) FW.evS xr_r x]
structure ORecStore where
  l : OLogLog
  m : List (Int × (List UInt8))
  half : Int
  round : Int
  dead : Bool
  deriving Inhabited
abbrev ORecStore.items (b : Nat) (p0 : Nat) (xb_1 : Nat) (xr_2 : Nat) (x : ORecStore) : List FW.It := [FW.blk b 69 [.lit (.pointer (some ⟨p0, 0, none⟩)), .lit (.pointer (some ⟨xb_1, 0, none⟩)), .lit (.map (some xr_2)), .lit (.int .i64 x.half), .lit (.int .u64 x.round), .lit (.bool x.dead)], FW.mapI (.int .u64) (Value.int .u64) FW.evS xr_2 x.m] ++ OLogLog.items xb_1 p0 x.l
def rec_parts.f  (v0 : ODevDev) : Option (Int × Int × Int × Int) :=
  (Option.bind (dev_Dev_Len.f v0) fun t1 => (Option.bind (dev_Dev_Len.f v0) fun t2 => some ((0, (IntKind.wrap .i64 (Int.tdiv (IntKind.wrap .i64 (t1 * 2)) 5)), (IntKind.wrap .i64 (2 * (IntKind.wrap .i64 (Int.tdiv (IntKind.wrap .i64 (t1 * 2)) 5)))), t2))))
def val_Wide.l1 (K : Nat) : Nat → List UInt8 → Int → Int → Int → Option Int
  | 0, _, _, _, _ => none
  | kl1 + 1, v0, v3, v7, v8 => (if (decide (v8 < v7)) = true then (if ((0 : Int) ≤ v8 ∧ v8 < (List.length v0 : Int)) then val_Wide.l1 K kl1 v0 (FW.orI .u64 (FW.shlI .u64 v3 8) (IntKind.wrap .u64 (FW.bt v0 v8))) v7 (IntKind.wrap .i64 (v8 + 1)) else none) else some (v3))
def val_Wide.f (K : Nat) (v0 : List UInt8) : Option Int :=
  val_Wide.l1 K K v0 0 (if 8 < (List.length v0 : Int) then 8 else (List.length v0 : Int)) 0
def log_Sectors.f  (v0 : Int) : Option Int :=
  some ((IntKind.wrap .i64 (1 + (IntKind.wrap .i64 (Int.tdiv (IntKind.wrap .i64 ((IntKind.wrap .i64 ((if (IntKind.wrap .i64 (v0 - 104)) < 0 then 0 else (IntKind.wrap .i64 (v0 - 104))) + 128)) - 1)) 128)))))
def log_Log_read.l1 (K : Nat) (v0 : OLogLog) (v0_0 : ODevDev) : Nat → Int → Int → List UInt8 → Int → Option (List UInt8 × Bool)
  | 0, _, _, _, _ => none
  | kl1 + 1, v6, v7, v8, v9 => (if (decide (v9 < v7)) = true then (Option.bind (dev_Dev_Read.f v0_0 (IntKind.wrap .i64 (v0.at_ + v9))) fun t6 => (if (List.length v8 : Int) + List.length t6.1 ≤ 9223372036854775807 then log_Log_read.l1 K v0 v0_0 kl1 v6 v7 (v8 ++ t6.1) (IntKind.wrap .i64 (v9 + 1)) else none)) else (if ((0 : Int) ≤ v6 ∧ v6 ≤ (List.length v8 : Int)) then some ((List.take (Int.toNat v6) v8), true) else none))
def log_Log_read.f (K : Nat) (v0 : OLogLog) (v0_0 : ODevDev) : Option (List UInt8 × Bool) :=
  (if (decide (v0.to_ ≤ v0.at_)) = true then some (([] : List UInt8), false) else (Option.bind (dev_Dev_Read.f v0_0 v0.at_) fun t1 => (if ((0 : Int) ≤ 8 ∧ (8 : Int) ≤ 16 ∧ 16 ≤ (List.length t1.1 : Int)) then (Option.bind (val_Wide.f K (List.take (Int.toNat 16 - Int.toNat 8) (List.drop (Int.toNat 8) t1.1))) fun t2 => (if ((0 : Int) ≤ 8 ∧ 8 ≤ (List.length t1.1 : Int)) then (Option.bind (val_Wide.f K (List.take (Int.toNat 8) t1.1)) fun t3 => (if (!decide (t3 = v0.next)) = false → ((0 : Int) ≤ (IntKind.wrap .i64 ((List.length t1.1 : Int) - 8)) ∧ (IntKind.wrap .i64 ((List.length t1.1 : Int) - 8)) ≤ (List.length t1.1 : Int)) then (Option.bind (if (!decide (t3 = v0.next)) = false then val_Wide.f K (List.drop (Int.toNat (IntKind.wrap .i64 ((List.length t1.1 : Int) - 8))) t1.1) else some default) fun t4 => (if (((!decide (t3 = v0.next)) || (!decide (t4 = v0.next))) || (decide ((IntKind.wrap .u64 ((IntKind.wrap .u64 (IntKind.wrap .i64 (v0.to_ - v0.at_))) * 128)) < t2))) = true then some (([] : List UInt8), false) else (Option.bind (log_Sectors.f (IntKind.wrap .i64 t2)) fun t5 => (if (decide ((IntKind.wrap .i64 (v0.to_ - v0.at_)) < t5)) = true then some (([] : List UInt8), false) else (if ((0 : Int) ≤ 16 ∧ (16 : Int) ≤ 120 ∧ 120 ≤ (List.length t1.1 : Int)) then log_Log_read.l1 K v0 v0_0 K t2 t5 (List.take (Int.toNat 120 - Int.toNat 16) (List.drop (Int.toNat 16) t1.1)) 1 else none))))) else none)) else none)) else none)))
def log_Open_opt.l1 (K : Nat) (v0 : ODevDev) : Nat → List (List UInt8) → Int → Int → Int → Int → Option (Option OLogLog × List (List UInt8) × Int × ODevDev)
  | 0, _, _, _, _, _ => none
  | kl1 + 1, l6, y5_1, y5_2, y5_3, y5_4 => (Option.bind (log_Log_read.f K (⟨y5_1, y5_2, y5_3, y5_4⟩ : OLogLog) v0) fun t3 => (if (!t3.2) = true then some ((some (⟨y5_1, y5_2, y5_3, y5_4⟩ : OLogLog)), l6, 0, v0) else (if ((List.length l6 + List.length ([t3.1] : List (List UInt8))) * 16 ≤ 140737488355328 ∧ List.length l6 + List.length ([t3.1] : List (List UInt8)) ≤ 140737488355328) then (Option.bind (log_Sectors.f (List.length t3.1 : Int)) fun t4 => log_Open_opt.l1 K v0 kl1 (l6 ++ ([t3.1] : List (List UInt8))) y5_1 y5_2 (IntKind.wrap .i64 (y5_3 + t4)) (IntKind.wrap .u64 (y5_4 + 1))) else none)))
def log_Open_opt.f (K : Nat) (v0 : ODevDev) (v1 : Int) (v2 : Int) (v3 : Int) : Option (Option OLogLog × List (List UInt8) × Int × ODevDev) :=
  (Option.bind (if ((decide (v1 < 0)) || (decide (v2 < v1))) = false then dev_Dev_Len.f v0 else some default) fun t1 => (if ((((decide (v1 < 0)) || (decide (v2 < v1))) || (decide (t1 < v2))) || (decide (v3 = 0))) = true then some (none, [], 1, v0) else (Option.bind (dev_Dev_Off.f v0) fun t2 => (if t2 = true then some (none, [], 7, v0) else log_Open_opt.l1 K v0 K ([] : List (List UInt8)) v1 v2 v1 v3))))
def rec_at.f  (v0 : List (List UInt8)) (v1 : Int) : Option (List UInt8) :=
  (if (decide ((List.length v0 : Int) ≤ v1)) = true then some (([] : List UInt8)) else (if ((0 : Int) ≤ v1 ∧ v1 < (List.length v0 : Int)) then some ((List.getD v0 (Int.toNat v1) default)) else none))
def rec_image.f (K : Nat) (v0 : ODevDev) (v1 : Int) (v2 : Int) : Option (List UInt8 × Bool × ODevDev) :=
  (if (decide (v2 = 0)) = true then some (([] : List UInt8), false, v0) else (Option.bind (rec_parts.f v0) fun t1 => (if ((0 : Int) ≤ v1 ∧ v1 < (List.length ([t1.1, t1.2.1, t1.2.2.1, t1.2.2.2] : List Int) : Int)) then (if ((0 : Int) ≤ (IntKind.wrap .i64 (v1 + 1)) ∧ (IntKind.wrap .i64 (v1 + 1)) < (List.length ([t1.1, t1.2.1, t1.2.2.1, t1.2.2.2] : List Int) : Int)) then (Option.bind (log_Open_opt.f K v0 (List.getD ([t1.1, t1.2.1, t1.2.2.1, t1.2.2.2] : List Int) (Int.toNat v1) default) (List.getD ([t1.1, t1.2.1, t1.2.2.1, t1.2.2.2] : List Int) (Int.toNat (IntKind.wrap .i64 (v1 + 1))) default) v2) fun t2 => (Option.bind (rec_at.f t2.2.1 0) fun t3 => some (t3, ((decide (t2.2.2.1 = 0)) && (decide (0 < (List.length t2.2.1 : Int)))), t2.2.2.2))) else none) else none)))
def rec_newest.j1 (s_l1 : List Int → Int → Bool → List (List UInt8) → List (Int × (List UInt8)) → List ApiFall → Int → Int → List UInt8 → Int → Option (Int × Int × List UInt8 × ODevDev)) (K : Nat) (l5 : List Int) (y1_2 : Int) (y1_4 : Bool) (l2 : List (List UInt8)) (m3 : List (Int × (List UInt8))) (l4 : List ApiFall) (v5 : Int) (v6 : Int) (v7 : List UInt8) (v17 : Int) : Option (Int × Int × List UInt8 × ODevDev) :=
  s_l1 l5 y1_2 y1_4 l2 m3 l4 v5 v6 v7 (IntKind.wrap .i64 (v17 + 1))
def rec_newest.l1 (K : Nat) : Nat → List Int → Int → Bool → List (List UInt8) → List (Int × (List UInt8)) → List ApiFall → Int → Int → List UInt8 → Int → Option (Int × Int × List UInt8 × ODevDev)
  | 0, _, _, _, _, _, _, _, _, _, _ => none
  | kl1 + 1, l5, y1_2, y1_4, l2, m3, l4, v5, v6, v7, v17 => (if (decide (v17 < 2)) = true then (if ((0 : Int) ≤ v17 ∧ v17 < (List.length l5 : Int)) then (Option.bind (dev_Dev_Read.f (⟨l2, m3, y1_2, l4, y1_4⟩ : ODevDev) (List.getD l5 (Int.toNat v17) default)) fun t2 => (if (!decide (t2.2 = 0)) = true then rec_newest.j1 (rec_newest.l1 K kl1) K l5 y1_2 y1_4 l2 m3 l4 v5 v6 v7 v17 else (if ((0 : Int) ≤ 8 ∧ 8 ≤ (List.length t2.1 : Int)) then (Option.bind (val_Wide.f K (List.take (Int.toNat 8) t2.1)) fun t3 => (Option.bind (rec_image.f K (⟨l2, m3, y1_2, l4, y1_4⟩ : ODevDev) v17 t3) fun t4 => (if (t4.2.1 && (decide (v6 < t3))) = true then rec_newest.j1 (rec_newest.l1 K kl1) K l5 t4.2.2.steps t4.2.2.off t4.2.2.sure t4.2.2.cache t4.2.2.falls v17 t3 t4.1 v17 else rec_newest.j1 (rec_newest.l1 K kl1) K l5 t4.2.2.steps t4.2.2.off t4.2.2.sure t4.2.2.cache t4.2.2.falls v5 v6 v7 v17))) else none))) else none) else some (v5, v6, v7, (⟨l2, m3, y1_2, l4, y1_4⟩ : ODevDev)))
def rec_newest.f (K : Nat) (v0 : ODevDev) : Option (Int × Int × List UInt8 × ODevDev) :=
  (Option.bind (rec_parts.f v0) fun t1 => rec_newest.l1 K K ([t1.1, t1.2.1, t1.2.2.1, t1.2.2.2] : List Int) v0.steps v0.off v0.sure v0.cache v0.falls 1 0 ([] : List UInt8) 0)
def page_Page_place_1.f  (v0 : ApiBody) (v1 : Int) : Option Int :=
  (if (decide (v0.ID < v1)) = true then some ((-1)) else (if (decide (v1 < v0.ID)) = true then some (1) else some (0)))
def slices_BinarySearchFunc_api_Body_api_Body_uint64_of_page_Page_place_1.l1 (K : Nat) : Nat → List ApiBody → Int → Int → Int → Int → Option (Int × Bool)
  | 0, _, _, _, _, _ => none
  | kl1 + 1, v0, v1, v8, v9, v10 => (if (decide (v9 < v10)) = true then (if ((0 : Int) ≤ (IntKind.wrap .i64 (FW.shrI .u64 (IntKind.wrap .u64 (IntKind.wrap .i64 (v9 + v10))) 1)) ∧ (IntKind.wrap .i64 (FW.shrI .u64 (IntKind.wrap .u64 (IntKind.wrap .i64 (v9 + v10))) 1)) < (List.length v0 : Int)) then (Option.bind (page_Page_place_1.f (List.getD v0 (Int.toNat (IntKind.wrap .i64 (FW.shrI .u64 (IntKind.wrap .u64 (IntKind.wrap .i64 (v9 + v10))) 1))) default) v1) fun t1 => (if (decide (t1 < 0)) = true then slices_BinarySearchFunc_api_Body_api_Body_uint64_of_page_Page_place_1.l1 K kl1 v0 v1 v8 (IntKind.wrap .i64 ((IntKind.wrap .i64 (FW.shrI .u64 (IntKind.wrap .u64 (IntKind.wrap .i64 (v9 + v10))) 1)) + 1)) v10 else slices_BinarySearchFunc_api_Body_api_Body_uint64_of_page_Page_place_1.l1 K kl1 v0 v1 v8 v9 (IntKind.wrap .i64 (FW.shrI .u64 (IntKind.wrap .u64 (IntKind.wrap .i64 (v9 + v10))) 1)))) else none) else (if (decide (v9 < v8)) = true → ((0 : Int) ≤ v9 ∧ v9 < (List.length v0 : Int)) then (Option.bind (if (decide (v9 < v8)) = true then page_Page_place_1.f (List.getD v0 (Int.toNat v9) default) v1 else some default) fun t2 => some (v9, ((decide (v9 < v8)) && (decide (t2 = 0))))) else none))
def slices_BinarySearchFunc_api_Body_api_Body_uint64_of_page_Page_place_1.f (K : Nat) (v0 : List ApiBody) (v1 : Int) : Option (Int × Bool) :=
  slices_BinarySearchFunc_api_Body_api_Body_uint64_of_page_Page_place_1.l1 K K v0 v1 (List.length v0 : Int) 0 (List.length v0 : Int)
def slices_Reverse_api_Body_api_Body.l1 (K : Nat) : Nat → List ApiBody → Int → Int → Option Unit
  | 0, _, _, _ => none
  | kl1 + 1, v0, v2, v3 => (if (decide (v2 < v3)) = true then none else some ())
def slices_Reverse_api_Body_api_Body.f (K : Nat) (v0 : List ApiBody) : Option Unit :=
  slices_Reverse_api_Body_api_Body.l1 K K v0 0 (IntKind.wrap .i64 ((List.length v0 : Int) - 1))
def slices_rotateLeft_api_Body.f (K : Nat) (v0 : List ApiBody) (v1 : Int) : Option Unit :=
  (if ((0 : Int) ≤ 0 ∧ (0 : Int) ≤ v1 ∧ v1 ≤ (List.length v0 : Int)) then (Option.bind (slices_Reverse_api_Body_api_Body.f K (List.take (Int.toNat v1 - Int.toNat 0) (List.drop (Int.toNat 0) v0))) fun t1 => (if ((0 : Int) ≤ v1 ∧ (v1 : Int) ≤ (List.length v0 : Int) ∧ (List.length v0 : Int) ≤ (List.length v0 : Int)) then (Option.bind (slices_Reverse_api_Body_api_Body.f K (List.take (Int.toNat (List.length v0 : Int) - Int.toNat v1) (List.drop (Int.toNat v1) v0))) fun t2 => (Option.bind (slices_Reverse_api_Body_api_Body.f K v0) fun t3 => some ())) else none)) else none)
def slices_rotateRight_api_Body.f (K : Nat) (v0 : List ApiBody) (v1 : Int) : Option Unit :=
  (Option.bind (slices_rotateLeft_api_Body.f K v0 (IntKind.wrap .i64 ((List.length v0 : Int) - v1))) fun t1 => some ())
def slices_Insert_api_Body_api_Body.f (K : Nat) (v0 : List ApiBody) (v1 : Int) (v2 : List ApiBody) : Option (List ApiBody) :=
  (if ((0 : Int) ≤ v1 ∧ (v1 : Int) ≤ (List.length v0 : Int) ∧ (List.length v0 : Int) ≤ (List.length v0 : Int)) then (if (decide ((List.length v2 : Int) = 0)) = true then some (v0) else (if (decide (v1 = (List.length v0 : Int))) = true then none else none)) else none)
def val_Two.f  (v0 : Int) : Option (List UInt8) :=
  some ((FW.toB ([(IntKind.wrap .u8 (FW.shrI .i64 v0 8)), (IntKind.wrap .u8 v0)] : List Int)))
def val_Eight.l1 (K : Nat) : Nat → List Int → Int → Int → Option (List UInt8)
  | 0, _, _, _ => none
  | kl1 + 1, l1, v0, v5 => (if (decide (v5 < 8)) = true then (if (0 : Int) ≤ (IntKind.wrap .i64 (56 - (IntKind.wrap .i64 (8 * v5)))) then (if ((0 : Int) ≤ v5 ∧ v5 < (List.length l1 : Int)) then val_Eight.l1 K kl1 (List.set l1 (Int.toNat v5) (IntKind.wrap .u8 (FW.shrI .u64 v0 (IntKind.wrap .i64 (56 - (IntKind.wrap .i64 (8 * v5))))))) v0 (IntKind.wrap .i64 (v5 + 1)) else none) else none) else (if (List.length l1 = 8) then some ((FW.toB l1)) else none))
def val_Eight.f (K : Nat) (v0 : Int) : Option (List UInt8) :=
  val_Eight.l1 K K (List.replicate 8 (0 : Int)) v0 0
def rec_Store_unpack.l1 (K : Nat) (v0 : ORecStore) (v0_0 : ODevDev) : Nat → List UInt8 → Option Int
  | 0, _ => none
  | kl1 + 1, v1 => (if (!decide (v1 = ([] : List UInt8))) = true then none else some (0))
def rec_Store_unpack.f (K : Nat) (v0 : ORecStore) (v0_0 : ODevDev) (v1 : List UInt8) : Option Int :=
  rec_Store_unpack.l1 K v0 v0_0 K v1
def log_Open.l1 (K : Nat) (v0 : ODevDev) : Nat → List (List UInt8) → Int → Int → Int → Int → Option (OLogLog × List (List UInt8) × Int × ODevDev)
  | 0, _, _, _, _, _ => none
  | kl1 + 1, l6, y5_1, y5_2, y5_3, y5_4 => (Option.bind (log_Log_read.f K (⟨y5_1, y5_2, y5_3, y5_4⟩ : OLogLog) v0) fun t3 => (if (!t3.2) = true then some ((⟨y5_1, y5_2, y5_3, y5_4⟩ : OLogLog), l6, 0, v0) else (if ((List.length l6 + List.length ([t3.1] : List (List UInt8))) * 16 ≤ 140737488355328 ∧ List.length l6 + List.length ([t3.1] : List (List UInt8)) ≤ 140737488355328) then (Option.bind (log_Sectors.f (List.length t3.1 : Int)) fun t4 => log_Open.l1 K v0 kl1 (l6 ++ ([t3.1] : List (List UInt8))) y5_1 y5_2 (IntKind.wrap .i64 (y5_3 + t4)) (IntKind.wrap .u64 (y5_4 + 1))) else none)))
def log_Open.f (K : Nat) (v0 : ODevDev) (v1 : Int) (v2 : Int) (v3 : Int) : Option (OLogLog × List (List UInt8) × Int × ODevDev) :=
  (Option.bind (if ((decide (v1 < 0)) || (decide (v2 < v1))) = false then dev_Dev_Len.f v0 else some default) fun t1 => (if ((((decide (v1 < 0)) || (decide (v2 < v1))) || (decide (t1 < v2))) || (decide (v3 = 0))) = true then none else (Option.bind (dev_Dev_Off.f v0) fun t2 => (if t2 = true then none else log_Open.l1 K v0 K ([] : List (List UInt8)) v1 v2 v1 v3))))
def rec_Unbatch.j1 (s_l1 : List ApiChange → List UInt8 → Int → Int → Option (List ApiChange × Int)) (K : Nat) (l1 : List ApiChange) (y2 : ApiChange) (v0 : List UInt8) (v7 : Int) (v17 : Int) (v18 : Int) : Option (List ApiChange × Int) :=
  (if (decide (498 < v7)) = true then some ([], 6) else (if (decide ((List.length v0 : Int) < v7)) = true then some ([], 4) else (if ((0 : Int) ≤ v7 ∧ v7 ≤ (List.length v0 : Int)) then (if ((0 : Int) ≤ v7 ∧ v7 ≤ (List.length v0 : Int)) then (if ((List.length l1 + List.length ([(⟨y2.ID, (List.take (Int.toNat v7) v0), y2.Gone⟩ : ApiChange)] : List ApiChange)) * 32 ≤ 140737488355328 ∧ List.length l1 + List.length ([(⟨y2.ID, (List.take (Int.toNat v7) v0), y2.Gone⟩ : ApiChange)] : List ApiChange) ≤ 140737488355328) then s_l1 (l1 ++ ([(⟨y2.ID, (List.take (Int.toNat v7) v0), y2.Gone⟩ : ApiChange)] : List ApiChange)) (List.drop (Int.toNat v7) v0) v17 (IntKind.wrap .i64 (v18 + 1)) else none) else none) else none)))
def rec_Unbatch.l1 (K : Nat) : Nat → List ApiChange → List UInt8 → Int → Int → Option (List ApiChange × Int)
  | 0, _, _, _, _ => none
  | kl1 + 1, l1, v0, v17, v18 => (if (decide (v18 < v17)) = true then (if (decide ((List.length v0 : Int) < 10)) = true then some ([], 4) else (if ((0 : Int) ≤ 8 ∧ 8 ≤ (List.length v0 : Int)) then (Option.bind (val_Wide.f K (List.take (Int.toNat 8) v0)) fun t2 => (if ((0 : Int) ≤ 8 ∧ (8 : Int) ≤ 10 ∧ 10 ≤ (List.length v0 : Int)) then (Option.bind (val_Wide.f K (List.take (Int.toNat 10 - Int.toNat 8) (List.drop (Int.toNat 8) v0))) fun t3 => (if ((0 : Int) ≤ 10 ∧ 10 ≤ (List.length v0 : Int)) then (if (decide ((IntKind.wrap .i64 t3) = 65535)) = true then rec_Unbatch.j1 (rec_Unbatch.l1 K kl1) K l1 (⟨t2, [], true⟩ : ApiChange) (List.drop (Int.toNat 10) v0) 0 v17 v18 else rec_Unbatch.j1 (rec_Unbatch.l1 K kl1) K l1 (⟨t2, [], false⟩ : ApiChange) (List.drop (Int.toNat 10) v0) (IntKind.wrap .i64 t3) v17 v18) else none)) else none)) else none)) else (if (!decide (v0 = ([] : List UInt8))) = true then some ([], 5) else some (l1, 0)))
def rec_Unbatch.f (K : Nat) (v0 : List UInt8) : Option (List ApiChange × Int) :=
  (if (decide ((List.length v0 : Int) < 2)) = true then some ([], 4) else (if ((0 : Int) ≤ 2 ∧ 2 ≤ (List.length v0 : Int)) then (Option.bind (val_Wide.f K (List.take (Int.toNat 2) v0)) fun t1 => (if ((0 : Int) ≤ 2 ∧ 2 ≤ (List.length v0 : Int)) then rec_Unbatch.l1 K K ([] : List ApiChange) (List.drop (Int.toNat 2) v0) (IntKind.wrap .i64 t1) 0 else none)) else none))
def rec_change.j1 (s_l1 : List (Int × (List UInt8)) → List ApiChange → Int → Int → Option OMap67) (K : Nat) (m1 : List (Int × (List UInt8))) (v6 : List ApiChange) (v7 : Int) (v8 : Int) : Option OMap67 :=
  s_l1 m1 v6 v7 (IntKind.wrap .i64 (v8 + 1))
def rec_change.l1 (K : Nat) : Nat → List (Int × (List UInt8)) → List ApiChange → Int → Int → Option OMap67
  | 0, _, _, _, _ => none
  | kl1 + 1, m1, v6, v7, v8 => (if (decide (v8 < v7)) = true then (if ((0 : Int) ≤ v8 ∧ v8 < (List.length v6 : Int)) then (if ((List.getD v6 (Int.toNat v8) default).Gone) = true then rec_change.j1 (rec_change.l1 K kl1) K (FW.mdel m1 ((List.getD v6 (Int.toNat v8) default).ID)) v6 v7 v8 else rec_change.j1 (rec_change.l1 K kl1) K (FW.mput m1 ((List.getD v6 (Int.toNat v8) default).ID) ((List.getD v6 (Int.toNat v8) default).S)) v6 v7 v8) else none) else some (m1))
def rec_change.f (K : Nat) (v0 : OMap67) (v1 : List ApiChange) : Option OMap67 :=
  rec_change.l1 K K v0 v1 (List.length v1 : Int) 0
def rec_Store_do.f (K : Nat) (v0 : ORecStore) (v0_0 : ODevDev) (v1 : List ApiChange) : Option (ORecStore × ODevDev) :=
  (Option.bind (rec_change.f K v0.m v1) fun t1 => some ((⟨v0.l, t1, v0.half, v0.round, v0.dead⟩ : ORecStore), v0_0))
def rec_Open.l1 (K : Nat) : Nat → Int → Int → Int → Int → Int → Bool → List (List UInt8) → List (Int × (List UInt8)) → List ApiFall → Int → Int → Bool → List (Int × (List UInt8)) → List (List UInt8) → Int → Int → Option (ORecStore × Int × ODevDev)
  | 0, _, _, _, _, _, _, _, _, _, _, _, _, _, _, _, _ => none
  | kl1 + 1, y8_1, y8_2, y8_3, y8_4, y1_2, y1_4, l2, m3, l4, y6_3, y6_4, y6_5, m5, v80, v81, v82 => (if (decide (v82 < v81)) = true then (if ((0 : Int) ≤ v82 ∧ v82 < (List.length v80 : Int)) then (Option.bind (rec_Unbatch.f K (List.getD v80 (Int.toNat v82) default)) fun t6 => (if (!decide (t6.2 = 0)) = true then none else (Option.bind (rec_Store_do.f K (⟨(⟨y8_1, y8_2, y8_3, y8_4⟩ : OLogLog), m5, y6_3, y6_4, y6_5⟩ : ORecStore) (⟨l2, m3, y1_2, l4, y1_4⟩ : ODevDev) t6.1) fun t7 => rec_Open.l1 K kl1 t7.1.l.from_ t7.1.l.to_ t7.1.l.at_ t7.1.l.next t7.2.steps t7.2.off t7.2.sure t7.2.cache t7.2.falls t7.1.half t7.1.round t7.1.dead t7.1.m v80 v81 (IntKind.wrap .i64 (v82 + 1))))) else none) else some ((⟨(⟨y8_1, y8_2, y8_3, y8_4⟩ : OLogLog), m5, y6_3, y6_4, y6_5⟩ : ORecStore), 0, (⟨l2, m3, y1_2, l4, y1_4⟩ : ODevDev)))
def rec_Open.j1 (K : Nat) (y1_2 : Int) (y1_4 : Bool) (l2 : List (List UInt8)) (m3 : List (Int × (List UInt8))) (l4 : List ApiFall) (y6_3 : Int) (y6_4 : Int) (y6_5 : Bool) (v6 : Int) : Option (ORecStore × Int × ODevDev) :=
  (Option.bind (rec_parts.f (⟨l2, m3, y1_2, l4, y1_4⟩ : ODevDev)) fun t4 => (if ((0 : Int) ≤ 2 ∧ 2 < (List.length ([t4.1, t4.2.1, t4.2.2.1, t4.2.2.2] : List Int) : Int)) then (if ((0 : Int) ≤ 3 ∧ 3 < (List.length ([t4.1, t4.2.1, t4.2.2.1, t4.2.2.2] : List Int) : Int)) then (Option.bind (log_Open.f K (⟨l2, m3, y1_2, l4, y1_4⟩ : ODevDev) (List.getD ([t4.1, t4.2.1, t4.2.2.1, t4.2.2.2] : List Int) (Int.toNat 2) default) (List.getD ([t4.1, t4.2.1, t4.2.2.1, t4.2.2.2] : List Int) (Int.toNat 3) default) v6) fun t5 => (if (!decide (t5.2.2.1 = 0)) = true then none else rec_Open.l1 K K t5.1.from_ t5.1.to_ t5.1.at_ t5.1.next t5.2.2.2.steps t5.2.2.2.off t5.2.2.2.sure t5.2.2.2.cache t5.2.2.2.falls y6_3 y6_4 y6_5 ([] : List (Int × (List UInt8))) t5.2.1 (List.length t5.2.1 : Int) 0)) else none) else none))
def rec_Open.f (K : Nat) (v0 : ODevDev) : Option (ORecStore × Int × ODevDev) :=
  (Option.bind (if false = false then dev_Dev_Len.f v0 else some default) fun t1 => (if (decide (t1 < 16)) = true then none else (Option.bind (dev_Dev_Off.f v0) fun t2 => (if t2 = true then none else (Option.bind (rec_newest.f K v0) fun t3 => (if (decide (0 < t3.2.1)) = true then none else rec_Open.j1 K t3.2.2.2.steps t3.2.2.2.off t3.2.2.2.sure t3.2.2.2.cache t3.2.2.2.falls t3.1 t3.2.1 false 1))))))
def offshootlaw06_open.f (K : Nat) (v0 : Int) : Option (ORecStore × ODevDev × Bool) :=
  (Option.bind (dev_New.f K v0) fun t1 => (Option.bind (rec_Open.f K t1.1) fun t2 => some (t2.1, t2.2.2, (((decide (t1.2 = 0)) && (decide (t2.2.1 = 0))) && true))))
def rec_Store_Dead.f  (v0 : ORecStore) (v0_0 : ODevDev) : Option Bool :=
  (Option.bind (if v0.dead = false then dev_Dev_Off.f v0_0 else some default) fun t1 => some ((v0.dead || t1)))
def rec_Batch.j1 (s_l1 : List UInt8 → List ApiChange → Int → Int → Option (List UInt8)) (K : Nat) (v10 : List ApiChange) (v12 : Int) (v3 : List UInt8) (v6 : List UInt8) (v10 : List ApiChange) (v11 : Int) (v12 : Int) : Option (List UInt8) :=
  (Option.bind (val_Eight.f K ((List.getD v10 (Int.toNat v12) default).ID)) fun t3 => (if (List.length t3 : Int) + List.length v6 ≤ 9223372036854775807 then (if (List.length (t3 ++ v6) : Int) + List.length ((List.getD v10 (Int.toNat v12) default).S) ≤ 9223372036854775807 then (if (List.length v3 : Int) + List.length ((t3 ++ v6) ++ ((List.getD v10 (Int.toNat v12) default).S)) ≤ 9223372036854775807 then s_l1 (v3 ++ ((t3 ++ v6) ++ ((List.getD v10 (Int.toNat v12) default).S))) v10 v11 (IntKind.wrap .i64 (v12 + 1)) else none) else none) else none))
def rec_Batch.l1 (K : Nat) : Nat → List UInt8 → List ApiChange → Int → Int → Option (List UInt8)
  | 0, _, _, _, _ => none
  | kl1 + 1, v3, v10, v11, v12 => (if (decide (v12 < v11)) = true then (if ((0 : Int) ≤ v12 ∧ v12 < (List.length v10 : Int)) then (Option.bind (val_Two.f (List.length ((List.getD v10 (Int.toNat v12) default).S) : Int)) fun t2 => (if ((List.getD v10 (Int.toNat v12) default).Gone) = true then rec_Batch.j1 (rec_Batch.l1 K kl1) K v10 v12 v3 ([255, 255] : List UInt8) v10 v11 v12 else rec_Batch.j1 (rec_Batch.l1 K kl1) K v10 v12 v3 t2 v10 v11 v12)) else none) else some (v3))
def rec_Batch.f (K : Nat) (v0 : List ApiChange) : Option (List UInt8) :=
  (Option.bind (val_Two.f (List.length v0 : Int)) fun t1 => rec_Batch.l1 K K t1 v0 (List.length v0 : Int) 0)
def log_pad.f  (v0 : List UInt8) (v1 : Int) : Option (List UInt8) :=
  (Option.bind (strings_Repeat.f ([0] : List UInt8) (IntKind.wrap .i64 (v1 - (List.length v0 : Int)))) fun t1 => (if (List.length v0 : Int) + List.length t1 ≤ 9223372036854775807 then some ((v0 ++ t1)) else none))
def log_Log_body.j1 (s_l1 : Int → Bool → List (List UInt8) → List (Int × (List UInt8)) → List ApiFall → Int → List UInt8 → Int → Option (Int × OLogLog × ODevDev)) (K : Nat) (v0 : OLogLog) (y2_2 : Int) (y2_4 : Bool) (l3 : List (List UInt8)) (m4 : List (Int × (List UInt8))) (l5 : List ApiFall) : Option (Int × OLogLog × ODevDev) :=
  (Option.bind (dev_Dev_Flush.f K (⟨l3, m4, y2_2, l5, y2_4⟩ : ODevDev)) fun t4 => some (t4.1, v0, t4.2))
def log_Log_body.l1 (K : Nat) (v0 : OLogLog) : Nat → Int → Bool → List (List UInt8) → List (Int × (List UInt8)) → List ApiFall → Int → List UInt8 → Int → Option (Int × OLogLog × ODevDev)
  | 0, _, _, _, _, _, _, _, _ => none
  | kl1 + 1, y2_2, y2_4, l3, m4, l5, v5, v6, v7 => (if (decide (v7 < v5)) = true then (if ((0 : Int) ≤ (if 128 < (List.length v6 : Int) then 128 else (List.length v6 : Int)) ∧ (if 128 < (List.length v6 : Int) then 128 else (List.length v6 : Int)) ≤ (List.length v6 : Int)) then (Option.bind (log_pad.f (List.take (Int.toNat (if 128 < (List.length v6 : Int) then 128 else (List.length v6 : Int))) v6) 128) fun t2 => (Option.bind (dev_Dev_Write.f K (⟨l3, m4, y2_2, l5, y2_4⟩ : ODevDev) v7 t2) fun t3 => (if (!decide (t3.1 = 0)) = true then some (t3.1, v0, t3.2) else (if ((0 : Int) ≤ (if 128 < (List.length v6 : Int) then 128 else (List.length v6 : Int)) ∧ (if 128 < (List.length v6 : Int) then 128 else (List.length v6 : Int)) ≤ (List.length v6 : Int)) then log_Log_body.l1 K v0 kl1 t3.2.steps t3.2.off t3.2.sure t3.2.cache t3.2.falls v5 (List.drop (Int.toNat (if 128 < (List.length v6 : Int) then 128 else (List.length v6 : Int))) v6) (IntKind.wrap .i64 (v7 + 1)) else none)))) else none) else (if (decide (v5 < v0.to_)) = true then (Option.bind (log_pad.f ([] : List UInt8) 128) fun t5 => (Option.bind (dev_Dev_Write.f K (⟨l3, m4, y2_2, l5, y2_4⟩ : ODevDev) v5 t5) fun t6 => (if (!decide (t6.1 = 0)) = true then some (t6.1, v0, t6.2) else log_Log_body.j1 (log_Log_body.l1 K v0 kl1) K v0 t6.2.steps t6.2.off t6.2.sure t6.2.cache t6.2.falls))) else log_Log_body.j1 (log_Log_body.l1 K v0 kl1) K v0 y2_2 y2_4 l3 m4 l5))
def log_Log_body.f (K : Nat) (v0 : OLogLog) (v0_0 : ODevDev) (v1 : List UInt8) : Option (Int × OLogLog × ODevDev) :=
  (Option.bind (log_Sectors.f (List.length v1 : Int)) fun t1 => (if ((0 : Int) ≤ (if 104 < (List.length v1 : Int) then 104 else (List.length v1 : Int)) ∧ (if 104 < (List.length v1 : Int) then 104 else (List.length v1 : Int)) ≤ (List.length v1 : Int)) then log_Log_body.l1 K v0 K v0_0.steps v0_0.off v0_0.sure v0_0.cache v0_0.falls (IntKind.wrap .i64 (v0.at_ + t1)) (List.drop (Int.toNat (if 104 < (List.length v1 : Int) then 104 else (List.length v1 : Int))) v1) (IntKind.wrap .i64 (v0.at_ + 1)) else none))
def log_head.f (K : Nat) (v0 : Int) (v1 : List UInt8) : Option (List UInt8) :=
  (Option.bind (val_Eight.f K v0) fun t1 => (Option.bind (val_Eight.f K (IntKind.wrap .u64 (List.length v1 : Int))) fun t2 => (if (List.length t1 : Int) + List.length t2 ≤ 9223372036854775807 then (if ((0 : Int) ≤ (if 104 < (List.length v1 : Int) then 104 else (List.length v1 : Int)) ∧ (if 104 < (List.length v1 : Int) then 104 else (List.length v1 : Int)) ≤ (List.length v1 : Int)) then (Option.bind (log_pad.f (List.take (Int.toNat (if 104 < (List.length v1 : Int) then 104 else (List.length v1 : Int))) v1) 104) fun t3 => (if (List.length (t1 ++ t2) : Int) + List.length t3 ≤ 9223372036854775807 then (Option.bind (val_Eight.f K v0) fun t4 => (if (List.length ((t1 ++ t2) ++ t3) : Int) + List.length t4 ≤ 9223372036854775807 then some ((((t1 ++ t2) ++ t3) ++ t4)) else none)) else none)) else none) else none)))
def log_Log_Add.f (K : Nat) (v0 : OLogLog) (v0_0 : ODevDev) (v1 : List UInt8) : Option (Int × OLogLog × ODevDev) :=
  (Option.bind (if false = false then dev_Dev_Off.f v0_0 else some default) fun t1 => (if t1 = true then some (7, v0, v0_0) else (Option.bind (log_Sectors.f (List.length v1 : Int)) fun t2 => (if (decide ((IntKind.wrap .i64 (v0.to_ - v0.at_)) < t2)) = true then some (40, v0, v0_0) else (Option.bind (log_Log_body.f K v0 v0_0 v1) fun t3 => (if (!decide (t3.1 = 0)) = true then some (t3.1, t3.2.1, t3.2.2) else (Option.bind (log_head.f K t3.2.1.next v1) fun t4 => (Option.bind (dev_Dev_Write.f K t3.2.2 t3.2.1.at_ t4) fun t5 => (if (!decide (t5.1 = 0)) = true then some (t5.1, t3.2.1, t5.2) else (Option.bind (dev_Dev_Flush.f K t5.2) fun t6 => (if (!decide (t6.1 = 0)) = true then some (t6.1, t3.2.1, t6.2) else (Option.bind (log_Sectors.f (List.length v1 : Int)) fun t7 => some (0, (⟨t3.2.1.from_, t3.2.1.to_, (IntKind.wrap .i64 (t3.2.1.at_ + t7)), (IntKind.wrap .u64 (t3.2.1.next + 1))⟩ : OLogLog), t6.2)))))))))))))
def log_Log_Next.f  (v0 : OLogLog) (v0_0 : ODevDev) : Option Int :=
  some (v0.next)
def log_Log_Reset.f  (v0 : OLogLog) (v0_0 : ODevDev) : Option (OLogLog × ODevDev) :=
  some ((⟨v0.from_, v0.to_, v0.from_, v0.next⟩ : OLogLog), v0_0)
def rec_Store_fold.f (K : Nat) (v0 : ORecStore) (v0_0 : ODevDev) (v1 : List ApiChange) : Option (Int × ORecStore × ODevDev) :=
  (Option.bind (rec_change.f K v0.m v1) fun t1 => (Option.bind (rec_parts.f v0_0) fun t2 => (if ((0 : Int) ≤ (IntKind.wrap .i64 (1 - v0.half)) ∧ (IntKind.wrap .i64 (1 - v0.half)) < (List.length ([t2.1, t2.2.1, t2.2.2.1, t2.2.2.2] : List Int) : Int)) then (if ((0 : Int) ≤ (IntKind.wrap .i64 ((IntKind.wrap .i64 (1 - v0.half)) + 1)) ∧ (IntKind.wrap .i64 ((IntKind.wrap .i64 (1 - v0.half)) + 1)) < (List.length ([t2.1, t2.2.1, t2.2.2.1, t2.2.2.2] : List Int) : Int)) then (Option.bind (log_Open.f K v0_0 (List.getD ([t2.1, t2.2.1, t2.2.2.1, t2.2.2.2] : List Int) (Int.toNat (IntKind.wrap .i64 (1 - v0.half))) default) (List.getD ([t2.1, t2.2.1, t2.2.2.1, t2.2.2.2] : List Int) (Int.toNat (IntKind.wrap .i64 ((IntKind.wrap .i64 (1 - v0.half)) + 1))) default) (IntKind.wrap .u64 (v0.round + 1))) fun t3 => (if (!decide (t3.2.2.1 = 0)) = true then some (t3.2.2.1, v0, t3.2.2.2) else none)) else none) else none)))
def rec_Store_Commit.j3 (s_l1 : List ApiChange → List ApiChange → Int → Int → Option (Int × ORecStore × ODevDev)) (K : Nat) (l3 : List (List UInt8)) (l5 : List ApiFall) (m4 : List (Int × (List UInt8))) (m7 : List (Int × (List UInt8))) (y2_2 : Int) (y2_4 : Bool) (y6_1 : Int) (y6_2 : Int) (y6_3 : Int) (y6_4 : Int) (y1_3 : Int) (y1_4 : Int) (y1_5 : Bool) (v8 : Int) : Option (Int × ORecStore × ODevDev) :=
  some (v8, (⟨(⟨y6_1, y6_2, y6_3, y6_4⟩ : OLogLog), m7, y1_3, y1_4, y1_5⟩ : ORecStore), (⟨l3, m4, y2_2, l5, y2_4⟩ : ODevDev))
def rec_Store_Commit.j2 (s_l1 : List ApiChange → List ApiChange → Int → Int → Option (Int × ORecStore × ODevDev)) (K : Nat) (y1_3 : Int) (y1_4 : Int) (y1_5 : Bool) (m7 : List (Int × (List UInt8))) (y6_1 : Int) (y6_2 : Int) (y6_3 : Int) (y6_4 : Int) (y2_2 : Int) (y2_4 : Bool) (l3 : List (List UInt8)) (m4 : List (Int × (List UInt8))) (l5 : List ApiFall) (v8 : Int) : Option (Int × ORecStore × ODevDev) :=
  (if (decide (v8 = 7)) = true then rec_Store_Commit.j3 s_l1 K l3 l5 m4 m7 y2_2 y2_4 y6_1 y6_2 y6_3 y6_4 y1_3 y1_4 true v8 else rec_Store_Commit.j3 s_l1 K l3 l5 m4 m7 y2_2 y2_4 y6_1 y6_2 y6_3 y6_4 y1_3 y1_4 y1_5 v8)
def rec_Store_Commit.j1 (s_l1 : List ApiChange → List ApiChange → Int → Int → Option (Int × ORecStore × ODevDev)) (K : Nat) (y1_3 : Int) (y1_4 : Int) (y1_5 : Bool) (m7 : List (Int × (List UInt8))) (y6_1 : Int) (y6_2 : Int) (y6_3 : Int) (y6_4 : Int) (y2_2 : Int) (y2_4 : Bool) (l3 : List (List UInt8)) (m4 : List (Int × (List UInt8))) (l5 : List ApiFall) (v1 : List ApiChange) (v8 : Int) : Option (Int × ORecStore × ODevDev) :=
  (if (decide (v8 = 0)) = true then (Option.bind (rec_Store_do.f K (⟨(⟨y6_1, y6_2, y6_3, y6_4⟩ : OLogLog), m7, y1_3, y1_4, y1_5⟩ : ORecStore) (⟨l3, m4, y2_2, l5, y2_4⟩ : ODevDev) v1) fun t4 => rec_Store_Commit.j2 s_l1 K t4.1.half t4.1.round t4.1.dead t4.1.m t4.1.l.from_ t4.1.l.to_ t4.1.l.at_ t4.1.l.next t4.2.steps t4.2.off t4.2.sure t4.2.cache t4.2.falls v8) else rec_Store_Commit.j2 s_l1 K y1_3 y1_4 y1_5 m7 y6_1 y6_2 y6_3 y6_4 y2_2 y2_4 l3 m4 l5 v8)
def rec_Store_Commit.l1 (K : Nat) (v0 : ORecStore) (v0_0 : ODevDev) : Nat → List ApiChange → List ApiChange → Int → Int → Option (Int × ORecStore × ODevDev)
  | 0, _, _, _, _ => none
  | kl1 + 1, v1, v14, v15, v16 => (if (decide (v16 < v15)) = true then (if ((0 : Int) ≤ v16 ∧ v16 < (List.length v14 : Int)) then (if (((List.getD v14 (Int.toNat v16) default).Gone) && (!decide (((List.getD v14 (Int.toNat v16) default).S) = ([] : List UInt8)))) = true then some (1, v0, v0_0) else (if (decide (498 < (List.length ((List.getD v14 (Int.toNat v16) default).S) : Int))) = true then some (3, v0, v0_0) else rec_Store_Commit.l1 K v0 v0_0 kl1 v1 v14 v15 (IntKind.wrap .i64 (v16 + 1)))) else none) else (Option.bind (rec_Batch.f K v1) fun t2 => (Option.bind (log_Log_Add.f K v0.l v0_0 t2) fun t3 => (if (decide (t3.1 = 40)) = true then (Option.bind (rec_Store_fold.f K (⟨t3.2.1, v0.m, v0.half, v0.round, v0.dead⟩ : ORecStore) t3.2.2 v1) fun t5 => (if (decide (t5.1 = 0)) = true then some (0, t5.2.1, t5.2.2) else rec_Store_Commit.j1 (rec_Store_Commit.l1 K v0 v0_0 kl1) K t5.2.1.half t5.2.1.round t5.2.1.dead t5.2.1.m t5.2.1.l.from_ t5.2.1.l.to_ t5.2.1.l.at_ t5.2.1.l.next t5.2.2.steps t5.2.2.off t5.2.2.sure t5.2.2.cache t5.2.2.falls v1 t5.1)) else rec_Store_Commit.j1 (rec_Store_Commit.l1 K v0 v0_0 kl1) K v0.half v0.round v0.dead v0.m t3.2.1.from_ t3.2.1.to_ t3.2.1.at_ t3.2.1.next t3.2.2.steps t3.2.2.off t3.2.2.sure t3.2.2.cache t3.2.2.falls v1 t3.1))))
def rec_Store_Commit.f (K : Nat) (v0 : ORecStore) (v0_0 : ODevDev) (v1 : List ApiChange) : Option (Int × ORecStore × ODevDev) :=
  (Option.bind (rec_Store_Dead.f v0 v0_0) fun t1 => (if t1 = true then some (7, v0, v0_0) else (if (decide (3000 < (List.length v1 : Int))) = true then some (3, v0, v0_0) else rec_Store_Commit.l1 K v0 v0_0 K v1 v1 (List.length v1 : Int) 0)))
def rec_Store_Get.f  (v0 : ORecStore) (v0_0 : ODevDev) (v1 : Int) : Option (List UInt8 × Bool) :=
  some (((FW.mget v0.m v1).getD ([] : List UInt8)), (FW.mget v0.m v1).isSome)
def offshootlaw06_awake.f (K : Nat)  : Option Bool :=
  (Option.bind (offshootlaw06_open.f K 20) fun t1 => (Option.bind (rec_Store_Commit.f K t1.1 t1.2.1 ([(⟨5, ([102, 105, 118, 101] : List UInt8), false⟩ : ApiChange)] : List ApiChange)) fun t2 => (Option.bind (dev_Dev_Crash.f K t2.2.2 0 0) fun t3 => (Option.bind (dev_Dev_Up.f t3) fun t4 => (Option.bind (rec_Open.f K t4.2) fun t5 => (Option.bind (rec_Store_Get.f t5.1 t5.2.2 5) fun t6 => some (((((t1.2.2 && (decide (t2.1 = 0))) && (decide (t5.2.1 = 0))) && t6.2) && (decide (t6.1 = ([102, 105, 118, 101] : List UInt8)))))))))))
def offshootlaw06_RecLast.j2 (s_l1 : List ApiChange → Int → Int → Bool → List (Int × (List UInt8)) → Int → Int → Int → Int → Int → Bool → List (List UInt8) → List (Int × (List UInt8)) → List ApiFall → List ApiChange → Bool → Int → Option Bool) (K : Nat) (l2 : List (List UInt8)) (l4 : List ApiFall) (l8 : List ApiChange) (m3 : List (Int × (List UInt8))) (m7 : List (Int × (List UInt8))) (y1_2 : Int) (y1_4 : Bool) (y5_3 : Int) (y5_4 : Int) (y5_5 : Bool) (y6_1 : Int) (y6_2 : Int) (y6_3 : Int) (y6_4 : Int) (y9 : ApiChange) (v0 : List ApiChange) (v5 : Bool) (v7 : Int) : Option Bool :=
  (if ((List.length l8 + List.length ([y9] : List ApiChange)) * 32 ≤ 140737488355328 ∧ List.length l8 + List.length ([y9] : List ApiChange) ≤ 140737488355328) then s_l1 (l8 ++ ([y9] : List ApiChange)) y5_3 y5_4 y5_5 m7 y6_1 y6_2 y6_3 y6_4 y1_2 y1_4 l2 m3 l4 v0 v5 (IntKind.wrap .i64 (v7 + 1)) else none)
def offshootlaw06_RecLast.j1 (s_l1 : List ApiChange → Int → Int → Bool → List (Int × (List UInt8)) → Int → Int → Int → Int → Int → Bool → List (List UInt8) → List (Int × (List UInt8)) → List ApiFall → List ApiChange → Bool → Int → Option Bool) (K : Nat) (l2 : List (List UInt8)) (l4 : List ApiFall) (l8 : List ApiChange) (m3 : List (Int × (List UInt8))) (m7 : List (Int × (List UInt8))) (y1_2 : Int) (y1_4 : Bool) (y5_3 : Int) (y5_4 : Int) (y5_5 : Bool) (y6_1 : Int) (y6_2 : Int) (y6_3 : Int) (y6_4 : Int) (y9 : ApiChange) (v0 : List ApiChange) (v5 : Bool) (v7 : Int) : Option Bool :=
  (if y9.Gone = true then offshootlaw06_RecLast.j2 s_l1 K l2 l4 l8 m3 m7 y1_2 y1_4 y5_3 y5_4 y5_5 y6_1 y6_2 y6_3 y6_4 (⟨y9.ID, ([] : List UInt8), y9.Gone⟩ : ApiChange) v0 v5 v7 else offshootlaw06_RecLast.j2 s_l1 K l2 l4 l8 m3 m7 y1_2 y1_4 y5_3 y5_4 y5_5 y6_1 y6_2 y6_3 y6_4 y9 v0 v5 v7)
def offshootlaw06_RecLast.l1 (K : Nat) : Nat → List ApiChange → Int → Int → Bool → List (Int × (List UInt8)) → Int → Int → Int → Int → Int → Bool → List (List UInt8) → List (Int × (List UInt8)) → List ApiFall → List ApiChange → Bool → Int → Option Bool
  | 0, _, _, _, _, _, _, _, _, _, _, _, _, _, _, _, _, _ => none
  | kl1 + 1, l8, y5_3, y5_4, y5_5, m7, y6_1, y6_2, y6_3, y6_4, y1_2, y1_4, l2, m3, l4, v0, v5, v7 => (if ((decide (v7 < (List.length v0 : Int))) && (decide (v7 < 10))) = true then (if ((0 : Int) ≤ v7 ∧ v7 < (List.length v0 : Int)) then (if ((0 : Int) ≤ v7 ∧ v7 < (List.length v0 : Int)) then (if (decide (40 < (List.length ((List.getD v0 (Int.toNat v7) default).S) : Int))) = true then (if ((0 : Int) ≤ 40 ∧ 40 ≤ (List.length ((List.getD v0 (Int.toNat v7) default).S) : Int)) then offshootlaw06_RecLast.j1 (offshootlaw06_RecLast.l1 K kl1) K l2 l4 l8 m3 m7 y1_2 y1_4 y5_3 y5_4 y5_5 y6_1 y6_2 y6_3 y6_4 (⟨7, (List.take (Int.toNat 40) ((List.getD v0 (Int.toNat v7) default).S)), (List.getD v0 (Int.toNat v7) default).Gone⟩ : ApiChange) v0 v5 v7 else none) else offshootlaw06_RecLast.j1 (offshootlaw06_RecLast.l1 K kl1) K l2 l4 l8 m3 m7 y1_2 y1_4 y5_3 y5_4 y5_5 y6_1 y6_2 y6_3 y6_4 (⟨7, (List.getD v0 (Int.toNat v7) default).S, (List.getD v0 (Int.toNat v7) default).Gone⟩ : ApiChange) v0 v5 v7) else none) else none) else (Option.bind (rec_Store_Commit.f K (⟨(⟨y6_1, y6_2, y6_3, y6_4⟩ : OLogLog), m7, y5_3, y5_4, y5_5⟩ : ORecStore) (⟨l2, m3, y1_2, l4, y1_4⟩ : ODevDev) l8) fun t2 => (Option.bind (rec_Store_Get.f t2.2.1 t2.2.2 7) fun t3 => (Option.bind (offshootlaw06_awake.f K) fun t4 => (Option.bind (if (((!t4) || (!v5)) || (!decide (t2.1 = 0))) = false then dev_Dev_Off.f t2.2.2 else some default) fun t5 => (if ((((!t4) || (!v5)) || (!decide (t2.1 = 0))) || t5) = true then some (false) else (if (decide ((List.length l8 : Int) = 0)) = false → ((0 : Int) ≤ (IntKind.wrap .i64 ((List.length l8 : Int) - 1)) ∧ (IntKind.wrap .i64 ((List.length l8 : Int) - 1)) < (List.length l8 : Int)) then (if ((decide ((List.length l8 : Int) = 0)) || ((List.getD l8 (Int.toNat (IntKind.wrap .i64 ((List.length l8 : Int) - 1))) default).Gone)) = true then some ((!t3.2)) else (if t3.2 = true → ((0 : Int) ≤ (IntKind.wrap .i64 ((List.length l8 : Int) - 1)) ∧ (IntKind.wrap .i64 ((List.length l8 : Int) - 1)) < (List.length l8 : Int)) then some ((t3.2 && (decide (t3.1 = ((List.getD l8 (Int.toNat (IntKind.wrap .i64 ((List.length l8 : Int) - 1))) default).S))))) else none)) else none)))))))
def offshootlaw06_RecLast.f (K : Nat) (v0 : List ApiChange) : Option Bool :=
  (Option.bind (offshootlaw06_open.f K 60) fun t1 => offshootlaw06_RecLast.l1 K K ([] : List ApiChange) t1.1.half t1.1.round t1.1.dead t1.1.m t1.1.l.from_ t1.1.l.to_ t1.1.l.at_ t1.1.l.next t1.2.1.steps t1.2.1.off t1.2.1.sure t1.2.1.cache t1.2.1.falls v0 t1.2.2 0)
def rec_Store_Get_nil.f  (v1 : Int) : Option (List UInt8 × Bool) :=
  some (([] : List UInt8), false)
def rec_Store_Snap_nil.f   : Option Unit :=
  some ()
def rec_Store_Snap_1.f  (v0 : Int) : Option (List UInt8 × Bool) :=
  some (([] : List UInt8), false)
def dev_Dev_Len_nil.f   : Option Int :=
  some (0)
def dev_Dev_Off_nil.f   : Option Bool :=
  some (true)
def rec_parts_nil.f   : Option (Int × Int × Int × Int) :=
  (Option.bind (dev_Dev_Len_nil.f) fun t1 => (Option.bind (dev_Dev_Len_nil.f) fun t2 => some ((0, (IntKind.wrap .i64 (Int.tdiv (IntKind.wrap .i64 (t1 * 2)) 5)), (IntKind.wrap .i64 (2 * (IntKind.wrap .i64 (Int.tdiv (IntKind.wrap .i64 (t1 * 2)) 5)))), t2))))
def dev_Dev_Read_nil.f  (v1 : Int) : Option (List UInt8 × Int) :=
  (Option.bind (dev_Dev_Off_nil.f) fun t1 => (if t1 = true then some (([] : List UInt8), 7) else none))
def log_Open_nil_opt.f (K : Nat) (v1 : Int) (v2 : Int) (v3 : Int) : Option (Option OLogLog × List (List UInt8) × Int) :=
  some (none, [], 1)
def rec_image_nil.f (K : Nat) (v1 : Int) (v2 : Int) : Option (List UInt8 × Bool) :=
  (if (decide (v2 = 0)) = true then some (([] : List UInt8), false) else (Option.bind (rec_parts_nil.f) fun t1 => (if ((0 : Int) ≤ v1 ∧ v1 < (List.length ([t1.1, t1.2.1, t1.2.2.1, t1.2.2.2] : List Int) : Int)) then (if ((0 : Int) ≤ (IntKind.wrap .i64 (v1 + 1)) ∧ (IntKind.wrap .i64 (v1 + 1)) < (List.length ([t1.1, t1.2.1, t1.2.2.1, t1.2.2.2] : List Int) : Int)) then (Option.bind (log_Open_nil_opt.f K (List.getD ([t1.1, t1.2.1, t1.2.2.1, t1.2.2.2] : List Int) (Int.toNat v1) default) (List.getD ([t1.1, t1.2.1, t1.2.2.1, t1.2.2.2] : List Int) (Int.toNat (IntKind.wrap .i64 (v1 + 1))) default) v2) fun t2 => (Option.bind (rec_at.f t2.2.1 0) fun t3 => some (t3, ((decide (t2.2.2 = 0)) && (decide (0 < (List.length t2.2.1 : Int))))))) else none) else none)))
def rec_newest_nil.j1 (s_l1 : List Int → Int → Int → List UInt8 → Int → Option (Int × Int × List UInt8)) (K : Nat) (l1 : List Int) (v5 : Int) (v6 : Int) (v7 : List UInt8) (v17 : Int) : Option (Int × Int × List UInt8) :=
  s_l1 l1 v5 v6 v7 (IntKind.wrap .i64 (v17 + 1))
def rec_newest_nil.l1 (K : Nat) : Nat → List Int → Int → Int → List UInt8 → Int → Option (Int × Int × List UInt8)
  | 0, _, _, _, _, _ => none
  | kl1 + 1, l1, v5, v6, v7, v17 => (if (decide (v17 < 2)) = true then (if ((0 : Int) ≤ v17 ∧ v17 < (List.length l1 : Int)) then (Option.bind (dev_Dev_Read_nil.f (List.getD l1 (Int.toNat v17) default)) fun t2 => (if (!decide (t2.2 = 0)) = true then rec_newest_nil.j1 (rec_newest_nil.l1 K kl1) K l1 v5 v6 v7 v17 else (if ((0 : Int) ≤ 8 ∧ 8 ≤ (List.length t2.1 : Int)) then (Option.bind (val_Wide.f K (List.take (Int.toNat 8) t2.1)) fun t3 => (Option.bind (rec_image_nil.f K v17 t3) fun t4 => (if (t4.2 && (decide (v6 < t3))) = true then rec_newest_nil.j1 (rec_newest_nil.l1 K kl1) K l1 v17 t3 t4.1 v17 else rec_newest_nil.j1 (rec_newest_nil.l1 K kl1) K l1 v5 v6 v7 v17))) else none))) else none) else some (v5, v6, v7))
def rec_newest_nil.f (K : Nat)  : Option (Int × Int × List UInt8) :=
  (Option.bind (rec_parts_nil.f) fun t1 => rec_newest_nil.l1 K K ([t1.1, t1.2.1, t1.2.2.1, t1.2.2.2] : List Int) 1 0 ([] : List UInt8) 0)
def rec_Open_nil_opt.f (K : Nat)  : Option (Option ORecStore × Int) :=
  some (none, 1)
def rec_Open_opt.l1 (K : Nat) : Nat → Int → Int → Int → Int → Int → Bool → List (List UInt8) → List (Int × (List UInt8)) → List ApiFall → Int → Int → Bool → List (Int × (List UInt8)) → List (List UInt8) → Int → Int → Option (Option ORecStore × Int × ODevDev)
  | 0, _, _, _, _, _, _, _, _, _, _, _, _, _, _, _, _ => none
  | kl1 + 1, y8_1, y8_2, y8_3, y8_4, y1_2, y1_4, l2, m3, l4, y6_3, y6_4, y6_5, m5, v80, v81, v82 => (if (decide (v82 < v81)) = true then (if ((0 : Int) ≤ v82 ∧ v82 < (List.length v80 : Int)) then (Option.bind (rec_Unbatch.f K (List.getD v80 (Int.toNat v82) default)) fun t6 => (if (!decide (t6.2 = 0)) = true then some (none, 60, (⟨l2, m3, y1_2, l4, y1_4⟩ : ODevDev)) else (Option.bind (rec_Store_do.f K (⟨(⟨y8_1, y8_2, y8_3, y8_4⟩ : OLogLog), m5, y6_3, y6_4, y6_5⟩ : ORecStore) (⟨l2, m3, y1_2, l4, y1_4⟩ : ODevDev) t6.1) fun t7 => rec_Open_opt.l1 K kl1 t7.1.l.from_ t7.1.l.to_ t7.1.l.at_ t7.1.l.next t7.2.steps t7.2.off t7.2.sure t7.2.cache t7.2.falls t7.1.half t7.1.round t7.1.dead t7.1.m v80 v81 (IntKind.wrap .i64 (v82 + 1))))) else none) else some ((some (⟨(⟨y8_1, y8_2, y8_3, y8_4⟩ : OLogLog), m5, y6_3, y6_4, y6_5⟩ : ORecStore)), 0, (⟨l2, m3, y1_2, l4, y1_4⟩ : ODevDev)))
def rec_Open_opt.j1 (K : Nat) (y1_2 : Int) (y1_4 : Bool) (l2 : List (List UInt8)) (m3 : List (Int × (List UInt8))) (l4 : List ApiFall) (y6_3 : Int) (y6_4 : Int) (y6_5 : Bool) (v6 : Int) : Option (Option ORecStore × Int × ODevDev) :=
  (Option.bind (rec_parts.f (⟨l2, m3, y1_2, l4, y1_4⟩ : ODevDev)) fun t4 => (if ((0 : Int) ≤ 2 ∧ 2 < (List.length ([t4.1, t4.2.1, t4.2.2.1, t4.2.2.2] : List Int) : Int)) then (if ((0 : Int) ≤ 3 ∧ 3 < (List.length ([t4.1, t4.2.1, t4.2.2.1, t4.2.2.2] : List Int) : Int)) then (Option.bind (log_Open.f K (⟨l2, m3, y1_2, l4, y1_4⟩ : ODevDev) (List.getD ([t4.1, t4.2.1, t4.2.2.1, t4.2.2.2] : List Int) (Int.toNat 2) default) (List.getD ([t4.1, t4.2.1, t4.2.2.1, t4.2.2.2] : List Int) (Int.toNat 3) default) v6) fun t5 => (if (!decide (t5.2.2.1 = 0)) = true then some (none, t5.2.2.1, t5.2.2.2) else rec_Open_opt.l1 K K t5.1.from_ t5.1.to_ t5.1.at_ t5.1.next t5.2.2.2.steps t5.2.2.2.off t5.2.2.2.sure t5.2.2.2.cache t5.2.2.2.falls y6_3 y6_4 y6_5 ([] : List (Int × (List UInt8))) t5.2.1 (List.length t5.2.1 : Int) 0)) else none) else none))
def rec_Open_opt.f (K : Nat) (v0 : ODevDev) : Option (Option ORecStore × Int × ODevDev) :=
  (Option.bind (if false = false then dev_Dev_Len.f v0 else some default) fun t1 => (if (decide (t1 < 16)) = true then some (none, 1, v0) else (Option.bind (dev_Dev_Off.f v0) fun t2 => (if t2 = true then some (none, 7, v0) else (Option.bind (rec_newest.f K v0) fun t3 => (if (decide (0 < t3.2.1)) = true then none else rec_Open_opt.j1 K t3.2.2.2.steps t3.2.2.2.off t3.2.2.2.sure t3.2.2.2.cache t3.2.2.2.falls t3.1 t3.2.1 false 1))))))
def rec_Store_Dead_nil.f   : Option Bool :=
  some (true)
def rec_Store_Commit_nil.l1 (K : Nat) : Nat → List ApiChange → List ApiChange → Int → Int → Option Int
  | 0, _, _, _, _ => none
  | kl1 + 1, v1, v14, v15, v16 => (if (decide (v16 < v15)) = true then (if ((0 : Int) ≤ v16 ∧ v16 < (List.length v14 : Int)) then (if (((List.getD v14 (Int.toNat v16) default).Gone) && (!decide (((List.getD v14 (Int.toNat v16) default).S) = ([] : List UInt8)))) = true then some (1) else (if (decide (498 < (List.length ((List.getD v14 (Int.toNat v16) default).S) : Int))) = true then some (3) else rec_Store_Commit_nil.l1 K kl1 v1 v14 v15 (IntKind.wrap .i64 (v16 + 1)))) else none) else none)
def rec_Store_Commit_nil.f (K : Nat) (v1 : List ApiChange) : Option Int :=
  (Option.bind (rec_Store_Dead_nil.f) fun t1 => (if t1 = true then some (7) else (if (decide (3000 < (List.length v1 : Int))) = true then some (3) else rec_Store_Commit_nil.l1 K K v1 v1 (List.length v1 : Int) 0)))
def rec_Store_IDs_nil.f   : Option (List Int) :=
  some ([])
def rec_Store_Round_nil.f   : Option Int :=
  some (0)
def offshootlaw06_RecNone.f (K : Nat) (v0 : Int) (v1 : ApiChange) : Option Bool :=
  (Option.bind (offshootlaw06_awake.f K) fun t1 => (if (!t1) = true then some (false) else (Option.bind (rec_Store_Get_nil.f v1.ID) fun t2 => (Option.bind (rec_Store_Snap_nil.f) fun t3 => (Option.bind (rec_Store_Snap_1.f v1.ID) fun t4 => (Option.bind (rec_Open_nil_opt.f K) fun t5 => (Option.bind (dev_New.f K (FW.andI .i64 v0 31)) fun t6 => (Option.bind (rec_Open_opt.f K t6.1) fun t7 => (Option.bind (offshootlaw06_open.f K 20) fun t8 => (Option.bind (dev_Dev_Crash.f K t8.2.1 0 0) fun t9 => (Option.bind (rec_Store_Commit.f K t8.1 t9 []) fun t10 => (Option.bind (rec_Open_opt.f K t10.2.2) fun t11 => (Option.bind (dev_Dev_Up.f t11.2.2) fun t12 => (Option.bind (offshootlaw06_awake.f K) fun t13 => (Option.bind (if (((t13 && t8.2.2) && (!t2.2)) && (!t4.2)) = true then rec_Store_Commit_nil.f K [] else some default) fun t14 => (Option.bind (if ((((t13 && t8.2.2) && (!t2.2)) && (!t4.2)) && (decide (t14 = 7))) = true then rec_Store_Dead_nil.f else some default) fun t15 => (Option.bind (if (((((t13 && t8.2.2) && (!t2.2)) && (!t4.2)) && (decide (t14 = 7))) && t15) = true then rec_Store_IDs_nil.f else some default) fun t16 => (Option.bind (if ((((((t13 && t8.2.2) && (!t2.2)) && (!t4.2)) && (decide (t14 = 7))) && t15) && (decide ((List.length t16 : Int) = 0))) = true then rec_Store_Round_nil.f else some default) fun t17 => some ((((((((((((((t13 && t8.2.2) && (!t2.2)) && (!t4.2)) && (decide (t14 = 7))) && t15) && (decide ((List.length t16 : Int) = 0))) && (decide (t17 = 0))) && (decide (t5.2 = 1))) && (decide (t6.2 = 0))) && ((decide (t7.2.1 = 0)) == (decide (16 ≤ (FW.andI .i64 v0 31))))) && ((decide (t7.2.1 = 0)) || (decide (t7.2.1 = 1)))) && (decide (t10.1 = 7))) && (decide (t11.2.1 = 7))))))))))))))))))))))
end Go.Proofs.YtfbkgaandmebaaaGreat
namespace Go.Proofs.YtfbkgaandmebaaaGreat
open Go.ChangeShapes Go.WideShapes Go.ChangeAt Go.RowKit
set_option linter.unusedVariables false
theorem open_ApiChange {W : World} : FW.OpenT Tryz.prog W 29 ApiChange.cells (fun _ => True) := by
  intro H enc sp n cs x h
  obtain ⟨xs, n', rfl, _, hlen, hxl, hx⟩ := DataW.trod_struct Tryz.underlying29 h
  obtain ⟨v0, _, r0⟩ := FW.open_fld hx hxl (i := 0) rfl rfl (m := 1) (by kernel_rfl) (FW.openT_int Tryz.underlying27)
  obtain ⟨v1, _, r1⟩ := FW.open_fld hx hxl (i := 1) rfl rfl (m := 1) (by kernel_rfl) (FW.openT_str Tryz.underlying9)
  obtain ⟨v2, _, r2⟩ := FW.open_fld hx hxl (i := 2) rfl rfl (m := 1) (by kernel_rfl) (FW.openT_bool Tryz.underlying4)
  exact ⟨⟨v0, v1, v2⟩, trivial, FW.seg_all (m := 3) (FW.seg_cons r0 (FW.seg_cons r1 r2)) (by rw [hlen]; kernel_rfl)⟩
theorem open_row_ApiChange {W : World} : FW.OpenT Tryz.prog W 22 (fun l : List ApiChange => [.row (r_ApiChange_cells l)]) (fun l => ∀ x ∈ l, True) :=
  FW.openT_slice (sz := 3) r_ApiChange_cells_eq Tryz.underlying22 (by kernel_rfl) (fun _ => rfl) (by decide) open_ApiChange
end Go.Proofs.YtfbkgaandmebaaaGreat

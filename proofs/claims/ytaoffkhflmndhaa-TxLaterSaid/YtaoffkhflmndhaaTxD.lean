/- Written by a program of this session (gen.py): functions of the program as plain Lean functions. -/
import Derived.Test.YtaoffkhflmndhaaHu
import Derived.Test.YtaoffkhflmndhaaInD
namespace Go.Proofs.Ytaoffkhflmndhaa
set_option linter.unusedVariables false
set_option maxRecDepth 20000
set_option maxHeartbeats 10000000
structure ApiBody where
  ID : Int
  S : List UInt8
  deriving Inhabited
def ApiBody.cells (x : ApiBody) : List FW.AV := [.lit (.int .u64 x.ID), .lit (.string (FW.B x.S))]
structure ApiChange where
  ID : Int
  S : List UInt8
  Gone : Bool
  deriving Inhabited
def ApiChange.cells (x : ApiChange) : List FW.AV := [.lit (.int .u64 x.ID), .lit (.string (FW.B x.S)), .lit (.bool x.Gone)]
def r_ApiChange_cells (l : List ApiChange) : List (List FW.AV) := l.map ApiChange.cells
theorem r_ApiChange_cells_eq : ∀ l, r_ApiChange_cells l = l.map ApiChange.cells := fun _ => rfl
def r_ApiBody_cells (l : List ApiBody) : List (List FW.AV) := l.map ApiBody.cells
theorem r_ApiBody_cells_eq : ∀ l, r_ApiBody_cells l = l.map ApiBody.cells := fun _ => rfl
def fnav (x : Option (List ApiBody)) : FW.AV := match x with
  | none => .lit .nilFunc
  | some l => .clo 17 [.ref [.row (r_ApiBody_cells l)]]
def c_fn (x : Option (List ApiBody)) : List FW.AV := [fnav x]
theorem fnav_nil (x : Option (List ApiBody)) : (fnav x = .lit .nilFunc ∧ x.isNone = true) ∨ ∃ F cs, fnav x = .clo F cs ∧ x.isNone = false := by
  cases x with
  | none => exact .inl ⟨rfl, rfl⟩
  | some l => exact .inr ⟨_, _, rfl, rfl⟩
def ApiChange.val (x : ApiChange) : Value := .agg #[.int .u64 x.ID, .string (FW.B x.S), .bool x.Gone]
theorem ApiChange.rep (ok : Nat → Prop) (w : World) (x : ApiChange) : FW.Rep ok w (.agg (ApiChange.cells x)) (ApiChange.val x) := by
  simp only [FW.Rep]; exact ⟨_, rfl, FW.repL_cons (FW.rep_lit rfl) (FW.repL_cons (FW.rep_lit rfl) (FW.repL_cons (FW.rep_lit rfl) (FW.repL_nil)))⟩
theorem ApiChange.uni {ok : Nat → Prop} {w : World} {x : ApiChange} {v : Value} (h : FW.Rep ok w (.agg (ApiChange.cells x)) v) : v = ApiChange.val x := FW.aggLits (us := [.int .u64 x.ID, .string (FW.B x.S), .bool x.Gone]) h
structure OTxTx where
  base : Option (List ApiBody)
  own : List (Int × ApiChange)
  deriving Inhabited
abbrev OTxTx.items (b : Nat) (xr_1 : Nat) (x : OTxTx) : List FW.It := [FW.blk b 45 [fnav x.base, .lit (.map (some xr_1))], FW.mapI (.int .u64) (Value.int .u64) ApiChange.val xr_1 x.own]
def tx_Tx_Put_nil.f  (v1 : Int) (v2 : List UInt8) : Option Unit :=
  some ()

def offshootref06_Find.l1 (K : Nat) : Nat → List ApiBody → Int → Int → Option (List UInt8 × Bool)
  | 0, _, _, _ => none
  | kl1 + 1, v0, v1, v6 => (if (decide (v6 < (List.length v0 : Int))) = true then (if ((0 : Int) ≤ v6 ∧ v6 < (List.length v0 : Int)) then (if (decide (((List.getD v0 (Int.toNat v6) default).ID) = v1)) = true then (if ((0 : Int) ≤ v6 ∧ v6 < (List.length v0 : Int)) then some ((List.getD v0 (Int.toNat v6) default).S, true) else none) else offshootref06_Find.l1 K kl1 v0 v1 (IntKind.wrap .i64 (v6 + 1))) else none) else some (([] : List UInt8), false))
def offshootref06_Find.f (K : Nat) (v0 : List ApiBody) (v1 : Int) : Option (List UInt8 × Bool) :=
  offshootref06_Find.l1 K K v0 v1 0

def offshootlaw09_getter_1.f (K : Nat) (v0 : Int) (v1 : List ApiBody) : Option (List UInt8 × Bool) :=
  (Option.bind (offshootref06_Find.f K v1 v0) fun t1 => some (t1.1, t1.2))

def tx_Tx_Get_nil.f (K : Nat) (v1 : Int) : Option (List UInt8 × Bool) :=
  some (([] : List UInt8), false)

def tx_New.f  (v0 : Option (List ApiBody)) : Option OTxTx :=
  some ((⟨v0, ([] : List (Int × ApiChange))⟩ : OTxTx))

def tx_Tx_was.f (K : Nat) (v0 : OTxTx) (v1 : Int) : Option (List UInt8 × Bool) :=
  (if (Option.isNone v0.base) = true then some (([] : List UInt8), false) else (Option.bind v0.base fun q1 => (Option.bind (offshootlaw09_getter_1.f K v1 q1) fun t1 => some (t1.1, t1.2))))

def tx_Tx_Get.f (K : Nat) (v0 : OTxTx) (v1 : Int) : Option (List UInt8 × Bool) :=
  (if ((FW.mget v0.own v1).isSome) = true then some (((FW.mget v0.own v1).getD (default : ApiChange)).S, (!(((FW.mget v0.own v1).getD (default : ApiChange)).Gone))) else (Option.bind (tx_Tx_was.f K v0 v1) fun t1 => some (t1.1, t1.2)))

def tx_Tx_Put.f  (v0 : OTxTx) (v1 : Int) (v2 : List UInt8) : Option OTxTx :=
  some ((⟨v0.base, (FW.mput v0.own v1 (⟨v1, v2, false⟩ : ApiChange))⟩ : OTxTx))

def offshootlaw09_getter.f  (v0 : List ApiBody) : Option (Option (List ApiBody)) :=
  some ((some v0))

def tx_Tx_Changes.j1 (s_l1 : List ApiChange → List Int → Int → Int → Option (List ApiChange)) (K : Nat) (v0 : OTxTx) (l3 : List ApiChange) (v16 : List Int) (v17 : Int) (v18 : Int) : Option (List ApiChange) :=
  s_l1 l3 v16 v17 (IntKind.wrap .i64 (v18 + 1))
def tx_Tx_Changes.l1 (K : Nat) (v0 : OTxTx) : Nat → List ApiChange → List Int → Int → Int → Option (List ApiChange)
  | 0, _, _, _, _ => none
  | kl1 + 1, l3, v16, v17, v18 => (if (decide (v18 < v17)) = true then (if ((0 : Int) ≤ v18 ∧ v18 < (List.length v16 : Int)) then (Option.bind (tx_Tx_was.f K v0 (List.getD v16 (Int.toNat v18) default)) fun t1 => (if (((((FW.mget v0.own (List.getD v16 (Int.toNat v18) default)).getD (default : ApiChange)).Gone) && t1.2) || ((!(((FW.mget v0.own (List.getD v16 (Int.toNat v18) default)).getD (default : ApiChange)).Gone)) && ((!t1.2) || (!decide (t1.1 = (((FW.mget v0.own (List.getD v16 (Int.toNat v18) default)).getD (default : ApiChange)).S)))))) = true then (if ((List.length l3 + List.length ([((FW.mget v0.own (List.getD v16 (Int.toNat v18) default)).getD (default : ApiChange))] : List ApiChange)) * 32 ≤ 140737488355328 ∧ List.length l3 + List.length ([((FW.mget v0.own (List.getD v16 (Int.toNat v18) default)).getD (default : ApiChange))] : List ApiChange) ≤ 140737488355328) then tx_Tx_Changes.j1 (tx_Tx_Changes.l1 K v0 kl1) K v0 (l3 ++ ([((FW.mget v0.own (List.getD v16 (Int.toNat v18) default)).getD (default : ApiChange))] : List ApiChange)) v16 v17 v18 else none) else tx_Tx_Changes.j1 (tx_Tx_Changes.l1 K v0 kl1) K v0 l3 v16 v17 v18)) else none) else some (l3))
def tx_Tx_Changes.f (K : Nat) (v0 : OTxTx) : Option (List ApiChange) :=
  (if (FW.keysU v0.own = true) then tx_Tx_Changes.l1 K v0 K ([] : List ApiChange) (FW.sortK v0.own) (List.length (FW.sortK v0.own) : Int) 0 else none)

def offshootlaw09_awake.f (K : Nat)  : Option Bool :=
  (Option.bind (offshootlaw09_getter.f ([(⟨1, ([111, 110, 101] : List UInt8)⟩ : ApiBody)] : List ApiBody)) fun t1 => (Option.bind (tx_New.f t1) fun t2 => (Option.bind (tx_Tx_Put.f t2 2 ([116, 119, 111] : List UInt8)) fun t3 => (Option.bind (tx_Tx_Get.f K t3 1) fun t4 => (Option.bind (tx_Tx_Get.f K t3 2) fun t5 => (Option.bind (if (((t4.2 && (decide (t4.1 = ([111, 110, 101] : List UInt8)))) && t5.2) && (decide (t5.1 = ([116, 119, 111] : List UInt8)))) = true then tx_Tx_Changes.f K t3 else some default) fun t6 => some (((((t4.2 && (decide (t4.1 = ([111, 110, 101] : List UInt8)))) && t5.2) && (decide (t5.1 = ([116, 119, 111] : List UInt8)))) && (decide ((List.length t6 : Int) = 1))))))))))

def tx_Tx_Drop_nil.f (K : Nat) (v1 : Int) : Option Bool :=
  (Option.bind (tx_Tx_Get_nil.f K v1) fun t1 => (if (!t1.2) = true then some (false) else none))

def tx_Tx_Changes_nil.f (K : Nat)  : Option (List ApiChange) :=
  some ([])

def tx_Tx_Drop.f (K : Nat) (v0 : OTxTx) (v1 : Int) : Option (Bool × OTxTx) :=
  (Option.bind (tx_Tx_Get.f K v0 v1) fun t1 => (if (!t1.2) = true then some (false, v0) else some (true, (⟨v0.base, (FW.mput v0.own v1 (⟨v1, [], true⟩ : ApiChange))⟩ : OTxTx))))

def offshootlaw09_TxNone.f (K : Nat) (v0 : Int) (v1 : List UInt8) : Option Bool :=
  (Option.bind (tx_Tx_Put_nil.f v0 v1) fun t1 => (Option.bind (tx_Tx_Get_nil.f K v0) fun t2 => (Option.bind (tx_New.f none) fun t3 => (Option.bind (tx_Tx_Get.f K t3 v0) fun t4 => (Option.bind (tx_Tx_Put.f t3 v0 v1) fun t5 => (Option.bind (tx_Tx_Get.f K t5 v0) fun t6 => (Option.bind (offshootlaw09_awake.f K) fun t7 => (Option.bind (if (t7 && (!t2.2)) = true then tx_Tx_Drop_nil.f K v0 else some default) fun t8 => (Option.bind (if ((t7 && (!t2.2)) && (!t8)) = true then tx_Tx_Changes_nil.f K else some default) fun t9 => (Option.bind (if (((((((t7 && (!t2.2)) && (!t8)) && (decide ((List.length t9 : Int) = 0))) && true) && (!t4.2)) && t6.2) && (decide (t6.1 = v1))) = true then tx_Tx_Changes.f K t5 else some default) fun t10 => (Option.bind (if ((((((((t7 && (!t2.2)) && (!t8)) && (decide ((List.length t9 : Int) = 0))) && true) && (!t4.2)) && t6.2) && (decide (t6.1 = v1))) && (decide ((List.length t10 : Int) = 1))) = true then tx_Tx_Drop.f K t5 v0 else some (default, t5)) fun t11 => (Option.bind (if (((((((((t7 && (!t2.2)) && (!t8)) && (decide ((List.length t9 : Int) = 0))) && true) && (!t4.2)) && t6.2) && (decide (t6.1 = v1))) && (decide ((List.length t10 : Int) = 1))) && t11.1) = true then tx_Tx_Changes.f K t11.2 else some default) fun t12 => some (((((((((((t7 && (!t2.2)) && (!t8)) && (decide ((List.length t9 : Int) = 0))) && true) && (!t4.2)) && t6.2) && (decide (t6.1 = v1))) && (decide ((List.length t10 : Int) = 1))) && t11.1) && (decide ((List.length t12 : Int) = 0))))))))))))))))

def offshootref06_Do.j1 (s_l1 : List ApiBody → List ApiChange → Int → Option (List ApiBody)) (s_l2 : List ApiBody → List ApiBody → List ApiChange → Int → Bool → Int → Option (List ApiBody)) (K : Nat) (l1 : List ApiBody) (v0 : List ApiBody) (v1 : List ApiChange) (v5 : Int) (v7 : Bool) (v8 : Int) : Option (List ApiBody) :=
  s_l2 l1 v0 v1 v5 v7 (IntKind.wrap .i64 (v8 + 1))
def offshootref06_Do.j2 (s_l1 : List ApiBody → List ApiChange → Int → Option (List ApiBody)) (s_l2 : List ApiBody → List ApiBody → List ApiChange → Int → Bool → Int → Option (List ApiBody)) (K : Nat) (l1 : List ApiBody) (v0 : List ApiBody) (v1 : List ApiChange) (v5 : Int) (v7 : Bool) (v8 : Int) : Option (List ApiBody) :=
  (if ((0 : Int) ≤ v8 ∧ v8 < (List.length v0 : Int)) then (if ((0 : Int) ≤ v5 ∧ v5 < (List.length v1 : Int)) then (if (!decide (((List.getD v0 (Int.toNat v8) default).ID) = ((List.getD v1 (Int.toNat v5) default).ID))) = true then (if ((0 : Int) ≤ v8 ∧ v8 < (List.length v0 : Int)) then (if ((List.length l1 + List.length ([(List.getD v0 (Int.toNat v8) default)] : List ApiBody)) * 24 ≤ 140737488355328 ∧ List.length l1 + List.length ([(List.getD v0 (Int.toNat v8) default)] : List ApiBody) ≤ 140737488355328) then offshootref06_Do.j1 s_l1 s_l2 K (l1 ++ ([(List.getD v0 (Int.toNat v8) default)] : List ApiBody)) v0 v1 v5 v7 v8 else none) else none) else offshootref06_Do.j1 s_l1 s_l2 K l1 v0 v1 v5 v7 v8) else none) else none)
def offshootref06_Do.j3 (s_l1 : List ApiBody → List ApiChange → Int → Option (List ApiBody)) (s_l2 : List ApiBody → List ApiBody → List ApiChange → Int → Bool → Int → Option (List ApiBody)) (K : Nat) (l1 : List ApiBody) (v1 : List ApiChange) (v5 : Int) : Option (List ApiBody) :=
  s_l1 l1 v1 (IntKind.wrap .i64 (v5 + 1))
def offshootref06_Do.l2 (s_l1 : List ApiBody → List ApiChange → Int → Option (List ApiBody)) (K : Nat) : Nat → List ApiBody → List ApiBody → List ApiChange → Int → Bool → Int → Option (List ApiBody)
  | 0, _, _, _, _, _, _ => none
  | kl2 + 1, l1, v0, v1, v5, v7, v8 => (if (decide (v8 < (List.length v0 : Int))) = true then (if (!v7) = true → ((0 : Int) ≤ v8 ∧ v8 < (List.length v0 : Int)) then (if (!v7) = true → ((0 : Int) ≤ v5 ∧ v5 < (List.length v1 : Int)) then (if ((!v7) && (decide (((List.getD v1 (Int.toNat v5) default).ID) ≤ ((List.getD v0 (Int.toNat v8) default).ID)))) = true then (if ((0 : Int) ≤ v5 ∧ v5 < (List.length v1 : Int)) then (if ((0 : Int) ≤ v5 ∧ v5 < (List.length v1 : Int)) then (if ((List.length l1 + List.length ([(⟨(List.getD v1 (Int.toNat v5) default).ID, (List.getD v1 (Int.toNat v5) default).S⟩ : ApiBody)] : List ApiBody)) * 24 ≤ 140737488355328 ∧ List.length l1 + List.length ([(⟨(List.getD v1 (Int.toNat v5) default).ID, (List.getD v1 (Int.toNat v5) default).S⟩ : ApiBody)] : List ApiBody) ≤ 140737488355328) then offshootref06_Do.j2 s_l1 (offshootref06_Do.l2 s_l1 K kl2) K (l1 ++ ([(⟨(List.getD v1 (Int.toNat v5) default).ID, (List.getD v1 (Int.toNat v5) default).S⟩ : ApiBody)] : List ApiBody)) v0 v1 v5 true v8 else none) else none) else none) else offshootref06_Do.j2 s_l1 (offshootref06_Do.l2 s_l1 K kl2) K l1 v0 v1 v5 v7 v8) else none) else none) else (if (!v7) = true then (if ((0 : Int) ≤ v5 ∧ v5 < (List.length v1 : Int)) then (if ((0 : Int) ≤ v5 ∧ v5 < (List.length v1 : Int)) then (if ((List.length l1 + List.length ([(⟨(List.getD v1 (Int.toNat v5) default).ID, (List.getD v1 (Int.toNat v5) default).S⟩ : ApiBody)] : List ApiBody)) * 24 ≤ 140737488355328 ∧ List.length l1 + List.length ([(⟨(List.getD v1 (Int.toNat v5) default).ID, (List.getD v1 (Int.toNat v5) default).S⟩ : ApiBody)] : List ApiBody) ≤ 140737488355328) then offshootref06_Do.j3 s_l1 (offshootref06_Do.l2 s_l1 K kl2) K (l1 ++ ([(⟨(List.getD v1 (Int.toNat v5) default).ID, (List.getD v1 (Int.toNat v5) default).S⟩ : ApiBody)] : List ApiBody)) v1 v5 else none) else none) else none) else offshootref06_Do.j3 s_l1 (offshootref06_Do.l2 s_l1 K kl2) K l1 v1 v5))
def offshootref06_Do.l1 (K : Nat) : Nat → List ApiBody → List ApiChange → Int → Option (List ApiBody)
  | 0, _, _, _ => none
  | kl1 + 1, v0, v1, v5 => (if (decide (v5 < (List.length v1 : Int))) = true then (if ((0 : Int) ≤ v5 ∧ v5 < (List.length v1 : Int)) then offshootref06_Do.l2 (offshootref06_Do.l1 K kl1) K K ([] : List ApiBody) v0 v1 v5 ((List.getD v1 (Int.toNat v5) default).Gone) 0 else none) else some (v0))
def offshootref06_Do.f (K : Nat) (v0 : List ApiBody) (v1 : List ApiChange) : Option (List ApiBody) :=
  offshootref06_Do.l1 K K v0 v1 0

def offshootlaw09_base.j1 (s_l1 : List ApiChange → List ApiChange → Int → Option (List ApiBody)) (K : Nat) (l1 : List ApiChange) (v0 : List ApiChange) (v4 : Int) : Option (List ApiBody) :=
  s_l1 l1 v0 (IntKind.wrap .i64 (v4 + 1))
def offshootlaw09_base.l1 (K : Nat) : Nat → List ApiChange → List ApiChange → Int → Option (List ApiBody)
  | 0, _, _, _ => none
  | kl1 + 1, l1, v0, v4 => (if ((decide (v4 < (List.length v0 : Int))) && (decide (v4 < 12))) = true then (if ((0 : Int) ≤ v4 ∧ v4 < (List.length v0 : Int)) then (if (!((List.getD v0 (Int.toNat v4) default).Gone)) = true → ((0 : Int) ≤ v4 ∧ v4 < (List.length v0 : Int)) then (if ((!((List.getD v0 (Int.toNat v4) default).Gone)) && (decide (((List.getD v0 (Int.toNat v4) default).ID) < 8))) = true then (if ((0 : Int) ≤ v4 ∧ v4 < (List.length v0 : Int)) then (if ((List.length l1 + List.length ([(List.getD v0 (Int.toNat v4) default)] : List ApiChange)) * 32 ≤ 140737488355328 ∧ List.length l1 + List.length ([(List.getD v0 (Int.toNat v4) default)] : List ApiChange) ≤ 140737488355328) then offshootlaw09_base.j1 (offshootlaw09_base.l1 K kl1) K (l1 ++ ([(List.getD v0 (Int.toNat v4) default)] : List ApiChange)) v0 v4 else none) else none) else offshootlaw09_base.j1 (offshootlaw09_base.l1 K kl1) K l1 v0 v4) else none) else none) else (Option.bind (offshootref06_Do.f K [] l1) fun t1 => some (t1)))
def offshootlaw09_base.f (K : Nat) (v0 : List ApiChange) : Option (List ApiBody) :=
  offshootlaw09_base.l1 K K ([] : List ApiChange) v0 0

def tx_Tx_Apply.j1 (s_l1 : Option (List ApiBody) → List (Int × ApiChange) → List ApiChange → Int → Int → Option OTxTx) (K : Nat) (y1_0 : Option (List ApiBody)) (m2 : List (Int × ApiChange)) (v6 : List ApiChange) (v7 : Int) (v8 : Int) : Option OTxTx :=
  s_l1 y1_0 m2 v6 v7 (IntKind.wrap .i64 (v8 + 1))
def tx_Tx_Apply.l1 (K : Nat) : Nat → Option (List ApiBody) → List (Int × ApiChange) → List ApiChange → Int → Int → Option OTxTx
  | 0, _, _, _, _, _ => none
  | kl1 + 1, y1_0, m2, v6, v7, v8 => (if (decide (v8 < v7)) = true then (if ((0 : Int) ≤ v8 ∧ v8 < (List.length v6 : Int)) then (if ((List.getD v6 (Int.toNat v8) default).Gone) = true then (Option.bind (tx_Tx_Drop.f K (⟨y1_0, m2⟩ : OTxTx) ((List.getD v6 (Int.toNat v8) default).ID)) fun t1 => tx_Tx_Apply.j1 (tx_Tx_Apply.l1 K kl1) K t1.2.base t1.2.own v6 v7 v8) else (Option.bind (tx_Tx_Put.f (⟨y1_0, m2⟩ : OTxTx) ((List.getD v6 (Int.toNat v8) default).ID) ((List.getD v6 (Int.toNat v8) default).S)) fun t2 => tx_Tx_Apply.j1 (tx_Tx_Apply.l1 K kl1) K t2.base t2.own v6 v7 v8)) else none) else some ((⟨y1_0, m2⟩ : OTxTx)))
def tx_Tx_Apply.f (K : Nat) (v0 : OTxTx) (v1 : List ApiChange) : Option OTxTx :=
  tx_Tx_Apply.l1 K K v0.base v0.own v1 (List.length v1 : Int) 0

def offshootlaw09_same.l1 (K : Nat) (v0 : OTxTx) : Nat → List ApiBody → Int → Option Bool
  | 0, _, _ => none
  | kl1 + 1, v1, v5 => (if (decide (v5 < 9)) = true then (Option.bind (tx_Tx_Get.f K v0 v5) fun t1 => (Option.bind (offshootref06_Find.f K v1 v5) fun t2 => (if ((!(t1.2 == t2.2)) || (!decide (t1.1 = t2.1))) = true then some (false) else offshootlaw09_same.l1 K v0 kl1 v1 (IntKind.wrap .u64 (v5 + 1))))) else some (true))
def offshootlaw09_same.f (K : Nat) (v0 : OTxTx) (v1 : List ApiBody) : Option Bool :=
  offshootlaw09_same.l1 K v0 K v1 0

def offshootlaw09_TxLater.j1 (s_l1 : Option (List ApiBody) → List (Int × ApiChange) → List ApiChange → List ApiBody → Int → Option Bool) (K : Nat) (m2 : List (Int × ApiChange)) (y1_0 : Option (List ApiBody)) (y3 : ApiChange) (v1 : List ApiChange) (v5 : List ApiBody) (v7 : Int) : Option Bool :=
  (Option.bind (tx_Tx_Apply.f K (⟨y1_0, m2⟩ : OTxTx) ([y3] : List ApiChange)) fun t4 => s_l1 t4.base t4.own v1 v5 (IntKind.wrap .i64 (v7 + 1)))
def offshootlaw09_TxLater.l1 (K : Nat) : Nat → Option (List ApiBody) → List (Int × ApiChange) → List ApiChange → List ApiBody → Int → Option Bool
  | 0, _, _, _, _, _ => none
  | kl1 + 1, y1_0, m2, v1, v5, v7 => (if ((decide (v7 < (List.length v1 : Int))) && (decide (v7 < 20))) = true then (if ((0 : Int) ≤ v7 ∧ v7 < (List.length v1 : Int)) then (if ((List.getD v1 (Int.toNat v7) default).Gone) = true then offshootlaw09_TxLater.j1 (offshootlaw09_TxLater.l1 K kl1) K m2 y1_0 (⟨(FW.andI .u64 ((List.getD v1 (Int.toNat v7) default).ID) 7), ([] : List UInt8), (List.getD v1 (Int.toNat v7) default).Gone⟩ : ApiChange) v1 v5 v7 else offshootlaw09_TxLater.j1 (offshootlaw09_TxLater.l1 K kl1) K m2 y1_0 (⟨(FW.andI .u64 ((List.getD v1 (Int.toNat v7) default).ID) 7), (List.getD v1 (Int.toNat v7) default).S, (List.getD v1 (Int.toNat v7) default).Gone⟩ : ApiChange) v1 v5 v7) else none) else (Option.bind (tx_Tx_Changes.f K (⟨y1_0, m2⟩ : OTxTx)) fun t5 => (Option.bind (offshootref06_Do.f K v5 t5) fun t6 => (Option.bind (offshootlaw09_getter.f t6) fun t7 => (Option.bind (tx_New.f t7) fun t8 => (Option.bind (tx_Tx_Apply.f K t8 []) fun t9 => (Option.bind (offshootlaw09_awake.f K) fun t10 => (Option.bind (if t10 = true then offshootlaw09_same.f K (⟨y1_0, m2⟩ : OTxTx) t6 else some default) fun t11 => (Option.bind (if (t10 && t11) = true then offshootlaw09_same.f K t9 t6 else some default) fun t12 => (Option.bind (if ((t10 && t11) && t12) = true then tx_Tx_Changes.f K t9 else some default) fun t13 => some ((((t10 && t11) && t12) && (decide ((List.length t13 : Int) = 0))))))))))))))
def offshootlaw09_TxLater.f (K : Nat) (v0 : List ApiChange) (v1 : List ApiChange) : Option Bool :=
  (Option.bind (offshootlaw09_base.f K v0) fun t1 => (Option.bind (offshootlaw09_getter.f t1) fun t2 => (Option.bind (tx_New.f t2) fun t3 => offshootlaw09_TxLater.l1 K K t3.base t3.own v1 t1 0)))
end Go.Proofs.Ytaoffkhflmndhaa
